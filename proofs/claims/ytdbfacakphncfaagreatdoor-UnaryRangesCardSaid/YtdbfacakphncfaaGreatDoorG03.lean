/- Lemmas. -/
import Derived.Test.YtdbfacakphncfaaGreatDoorG02
import Derived.Test.YtdbfacakphncfaaGreatDoorProg
set_option maxRecDepth 1000000
set_option maxHeartbeats 40000000
set_option linter.all false
namespace Go.Ab
open Go.Proofs
def zA:Nat→Nat→Option (List Nat)
 |3,9=>some [0,1,3,6,69,70]
 |3,12=>some [0,1,3,6,16,69,70,75,76]
 |5,4=>some [0,1,3,6,50,51]
 |6,7=>some [2,5,7,9,43,44,45]
 |7,2=>some [1,2,7,8]
 |8,3=>some [1,2,35,36,37]
 |12,4=>some [2,4,6,8,9,13,14,15]
 |13,6=>some [0,4,5,17,18]
 |16,4=>some [2,10,11,12]
 |16,7=>some [2,10,11,12,22,23,24]
 |17,7=>some [0,3,5,6,7,8,9]
 |17,16=>some [0,3,5,6,7,8,9]
 |20,6=>some [1,2,3,4]
 |20,999999999=>some [20]
 |24,3=>some [1,3,4,6,8,9,22,23,24]
 |24,9=>some [3,4,6,8,9]
 |24,14=>some [3,4,6,8,9,12,13,14,61,62]
 |24,30=>some [8,18,127,128,129]
 |25,6=>some [1,2,7,8,10,12,37,38,39]
 |25,25=>some [7,8,92,93]
 |26,4=>some [1,2,15,16,17]
 |28,4=>some [0,1,12,13]
 |30,4=>some [2,8,9,10]
 |33,18=>some [0,1,8]
 |37,3=>some [0,3,4]
 |38,9=>some [1,23,24]
 |39,4=>some [0,2,4,6,8,9,20,21,22]
 |39,8=>some [0,2,4,6,8,9,10,11,12,20,21,22,28,29,30]
 |42,3=>some [2,3,7,8,9]
 |44,3=>some [2,3,6,7,8]
 |46,12=>some [0,1,5,39,40,41]
 |46,22=>some [1,8,63,64,65]
 |50,4=>some [1,2,15,16,17]
 |53,2=>some [0,1,7,8]
 |54,3=>some [0,1]
 |56,1=>some [0,1]
 |56,6=>some [0,1]
 |58,2=>some [0,5]
 |65,4=>some [0,1,5,6,7]
 |66,2=>some [0,1,3,4]
 |67,2=>some [0,1,2,7]
 |75,2=>some [0,2,7,8]
 |78,22=>some [0,3,106,107]
 |82,8=>some [3,6,23,24,25]
 |89,4=>some [3,4,13,14]
 |95,6=>some [0,2,5,6,7,8,9]
 |95,19=>some [0,2,5,7,8,9,10,11]
 |97,3=>some [0,3,4]
 |98,6=>some [1,6,7]
 |99,9=>some [1,3]
 |100,15=>some [4,5,6]
 |100,26=>some [1,7,8]
 |103,6=>some [0,2,3,9]
 |133,3=>some [2,3,6,7,10,11]
 |145,3=>some [2,3,11,12,13]
 |147,13=>some [0,1,6,8,62,63]
 |152,3=>some [2,3,4,5,6]
 |152,8=>some [2,3,4,5,6,7,8,9]
 |153,3=>some [0,2,3,4]
 |156,4=>some [0,3]
 |157,3=>some [1,5,6]
 |168,2=>some [5,6,7]
 |170,2=>some [0,1,9,10,11]
 |181,6=>some [0,4,9,33,34,35]
 |189,1=>some [0,1,4]
 |190,4=>some [0,1,5,6,7]
 |191,4=>some [0,1,5]
 |192,4=>some [0,1,5,6,7]
 |194,5=>some [2,3,4,5,6,7,8,9,10]
 |194,9=>some [2,3,4,5,6,7,8,9,10,11,12]
 |196,3=>some [0,2,4,5]
 |203,5=>some [3,4]
 |211,3=>some [3,6,7,8]
 |214,15=>some [0,1,5,6,7,8,9,10]
 |215,3=>some [0,2,3,5,10,11,12]
 |215,13=>some [2,5,36,37,38]
 |249,5=>some [0,1,5,6,7,8,9]
 |249,11=>some [0,1,5,6,7,8,10]
 |252,17=>some [2,8,9,10,11,13,14,15,16]
 |252,24=>some [2,8,9,10,14,15,16,17,18]
 |254,2=>some [0,1,2,3,9]
 |258,6=>some [0,4,5,7]
 |264,36=>some [1,8,9,10,11,12,13,99,100,101]
 |271,1=>some [0,1,4]
 |272,11=>some [0,1,3,4,10,11,12,13,14,15,16]
 |272,18=>some [0,1,3,4,10,11,12,13,17]
 |273,1=>some [0,1]
 |274,2=>some [0,2,4]
 |275,1=>some [0,1]
 |276,1=>some [0,1]
 |277,13=>some [0,1,2,10,11,52,53]
 |277,21=>some [0,2,10,11,77,78]
 |280,3=>some [0,4,5]
 |280,8=>some [4,6,7,8]
 |284,2=>some [0,7,8,9]
 |285,2=>some [1,2,10]
 |287,10=>some [0,3,4,5]
 |297,10=>some [0,4,5,6]
 |299,6=>some [0,1,5]
 |305,38=>some [175]
 |305,5=>some [0,7,8,9]
 |305,12=>some [0,7,8,9,12]
 |305,25=>some [0,7,8,9,14,15]
 |305,29=>some [0,7,8,9,14,15,16]
 |306,2=>some [2,4]
 |_,_=>none
def prims(f:FuncId)(x:List AV):Option AV :=
 bif Nat.beq f 108 then zEm x else
 bif Nat.beq f 46 then zJq x else
 bif Nat.beq f 126 then zCW x else
 bif Nat.beq f 198 then zIX x else
 bif Nat.beq f 240 then zBS x else
 bif Nat.beq f 239 then zCg x else
 bif Nat.beq f 202 then zCj x else
 bif Nat.beq f 201 then zCO x else
 bif Nat.beq f 196 then zHd x else
 none
noncomputable def CC:Cfg:={ P:=Tryz.prog,byRef:=fun _=>false,thaw:=fun f=>Nat.beq f 85,keep:=zA,prim:=prims }
def zAm:CC.P=Tryz.prog:=rfl
def zAe(f:FuncId):CC.byRef f=false:=rfl
def zCM{a b:Nat}(h:a≠b):Nat.beq a b=false:=by cases hb:Nat.beq a b with|true=>exact absurd (Nat.eq_of_beq_eq_true hb) h|false=>rfl
def yA(f:FuncId)(x:List AV)(h:f≠108∧f≠46∧f≠126∧f≠198∧f≠240∧f≠239∧f≠202∧f≠201∧f≠196):CC.prim f x=none:=by
 obtain⟨h0,h1,h2,h3,h4,h5,h6,h7,h8⟩:=h
 show prims f x=none
 unfold prims;rw[zCM h0,zCM h1,zCM h2,zCM h3,zCM h4,zCM h5,zCM h6,zCM h7,zCM h8];rfl
def zYN(x:List AV):CC.prim 126 x=zCW x:=rfl
def zZR(x:List AV):CC.prim 198 x=zIX x:=rfl
def zYB(x:List AV):CC.prim 240 x=zBS x:=rfl
def zZG(x:List AV):CC.prim 239 x=zCg x:=rfl
def zZC(x:List AV):CC.prim 202 x=zCj x:=rfl
def zYJ(x:List AV):CC.prim 201 x=zCO x:=rfl
def yAf(x:List AV):CC.prim 196 x=zHd x:=rfl
def zXd:und Tryz.prog 2=some (.int .i64):=by kernel_rfl
def zWO:agg? Tryz.prog 2=some false:=by kernel_rfl
def zSS:sizeOf? Tryz.prog 3=some 1:=by kernel_rfl
def zWI:und Tryz.prog 5=some (.int .u8):=by kernel_rfl
def zWR:agg? Tryz.prog 5=some false:=by kernel_rfl
def zFs:und Tryz.prog 9=some .string:=by kernel_rfl
def zW4:agg? Tryz.prog 9=some false:=by kernel_rfl
def yFF(d:Nat)(xs ys:List Tree):equal Tryz.prog (d+1) 23 (.agg xs) (.agg ys)=zLc Tryz.prog (equal Tryz.prog d) 5 0 xs ys (zLc Tryz.prog (equal Tryz.prog d) 2 1 xs ys (zLc Tryz.prog (equal Tryz.prog d) 9 2 xs ys (some true))):=by kernel_rfl
def yEe:zCv Tryz.prog 50 23=false:=by kernel_rfl
def zVq(n:Nat):small Tryz.prog 23 n=(true&&decide (n<4294967296)&&true):=by kernel_rfl
def yFM:zBn Tryz.prog 23=some (.t (.agg [.int .u8 (0),.int .i64 (0),.str []])):=by kernel_rfl
def zSb:und Tryz.prog 69=some (.slice 3):=by kernel_rfl
def zQl(u:Nat)(v:Tree):uS Tryz.prog (.t (.ifc u v)) 227 true=match Nat.beq u 227 with|true=>some (.val (.tup [.t v,.t (.bool true)]),[])|false=>some (.val (.tup [.t (.int .i64 (0)),.t (.bool false)]),[]):=by cases h:Nat.beq u 227<;>simp only[uS,h]<;>kernel_rfl
def zXQ:zBn Tryz.prog 281=some (.t (.agg [.int .u8 (0),.int .i64 (0),.int .i64 (0)])):=by kernel_rfl
abbrev NF (n:Nat) (f:Func):Prop:=nth Tryz.prog.funcs.toList n=some f
def fnx{n:Nat}{f:Func}(h:Tryz.prog.funcs[n]?=some f):NF n f:=by show nth _ _=_;rw[yR];simpa using h
def kq{p:Prop}(h:p:=by(repeat' apply And.intro)<;>intros<;>(show _=_;kernel_rfl)):p:=h
abbrev HBq (f:FuncId):Prop:=yY Tryz.prog f=true
def yHW:NF 3 Tryz.f3:=fnx Tryz.func3
def yIY:NF 7 Tryz.f7:=fnx Tryz.func7
def zQV:HBq 7:=kq
def zQL:HBq 8:=kq
def yH6:NF 9 Tryz.f9:=fnx Tryz.func9
def zQP:HBq 9:=kq
def zUz:NF 10 Tryz.f10:=fnx Tryz.func10
def zNp:HBq 10:=kq
def yDd:NF 11 Tryz.f11:=fnx Tryz.func11
def zNd:HBq 11:=kq
def yGn:NF 12 Tryz.f12:=fnx Tryz.func12
def yI5:HBq 12:=kq
def yDz:NF 17 Tryz.f17:=fnx Tryz.func17
def zW2:HBq 17:=kq
def yEv:NF 18 Tryz.f18:=fnx Tryz.func18
def zXi:HBq 18:=kq
def yEc:NF 19 Tryz.f19:=fnx Tryz.func19
def zW0:HBq 19:=kq
def yAW:NF 20 Tryz.f20:=fnx Tryz.func20
def zKw:HBq 20:=kq
def yDb:NF 21 Tryz.f21:=fnx Tryz.func21
def zKL:HBq 21:=kq
def yE5:NF 22 Tryz.f22:=fnx Tryz.func22
def zJ6:HBq 22:=kq
def yF8:NF 23 Tryz.f23:=fnx Tryz.func23
def yI6:HBq 23:=kq
def yGm:NF 24 Tryz.f24:=fnx Tryz.func24
def yI1:HBq 24:=kq
def yBF:NF 31 Tryz.f31:=fnx Tryz.func31
def zXl:HBq 31:=kq
def yGM:NF 32 Tryz.f32:=fnx Tryz.func32
def zWY:HBq 32:=kq
def zKO:NF 33 Tryz.f33:=fnx Tryz.func33
def zFL:HBq 33:=kq
def yBK:NF 34 Tryz.f34:=fnx Tryz.func34
def yH7:HBq 34:=kq
def yDs:NF 35 Tryz.f35:=fnx Tryz.func35
def zWT:HBq 35:=kq
def yD5:NF 36 Tryz.f36:=fnx Tryz.func36
def yIe:HBq 36:=kq
def zUC:NF 37 Tryz.f37:=fnx Tryz.func37
def zCl:HBq 37:=kq
def yE2:NF 38 Tryz.f38:=fnx Tryz.func38
def yIJ:HBq 38:=kq
def yEu:NF 39 Tryz.f39:=fnx Tryz.func39
def yIk:HBq 39:=kq
def yF1:NF 40 Tryz.f40:=fnx Tryz.func40
def yHz:HBq 40:=kq
def zTV:NF 41 Tryz.f41:=fnx Tryz.func41
def yHe:HBq 41:=kq
def yG6:NF 42 Tryz.f42:=fnx Tryz.func42
def zIG:HBq 42:=kq
def zRY:NF 43 Tryz.f43:=fnx Tryz.func43
def yG9:HBq 43:=kq
def yB5:NF 44 Tryz.f44:=fnx Tryz.func44
def zLA:HBq 44:=kq
def zNo:HBq 49:=kq
def yBm:NF 53 Tryz.f53:=fnx Tryz.func53
def yJe:HBq 53:=kq
def yAS:NF 54 Tryz.f54:=fnx Tryz.func54
def zNt:HBq 54:=kq
def yGV:NF 55 Tryz.f55:=fnx Tryz.func55
def zHl:HBq 55:=kq
def yCk:NF 56 Tryz.f56:=fnx Tryz.func56
def zNg:HBq 56:=kq
def yBS:NF 57 Tryz.f57:=fnx Tryz.func57
def zNj:HBq 57:=kq
def yC9:NF 58 Tryz.f58:=fnx Tryz.func58
def zNl:HBq 58:=kq
def yEM:NF 59 Tryz.f59:=fnx Tryz.func59
def zNe:HBq 59:=kq
def zJ7:NF 60 Tryz.f60:=fnx Tryz.func60
def zRL:HBq 60:=kq
def zUb:NF 61 Tryz.f61:=fnx Tryz.func61
def zHm:HBq 61:=kq
def zUO:NF 62 Tryz.f62:=fnx Tryz.func62
def zFP:HBq 62:=kq
def yEh:NF 63 Tryz.f63:=fnx Tryz.func63
def zGY:HBq 63:=kq
def zRW:NF 64 Tryz.f64:=fnx Tryz.func64
def zHo:HBq 64:=kq
def yCb:NF 65 Tryz.f65:=fnx Tryz.func65
def zWS:HBq 65:=kq
def yGD:NF 66 Tryz.f66:=fnx Tryz.func66
def yHk:HBq 66:=kq
def zSG:NF 67 Tryz.f67:=fnx Tryz.func67
def zKr:HBq 67:=kq
def yE0:NF 68 Tryz.f68:=fnx Tryz.func68
def zW7:HBq 68:=kq
def yF6:NF 69 Tryz.f69:=fnx Tryz.func69
def yIw:HBq 69:=kq
def yAO:NF 70 Tryz.f70:=fnx Tryz.func70
def zRj:HBq 70:=kq
def yA8:NF 71 Tryz.f71:=fnx Tryz.func71
def zXj:HBq 71:=kq
def yEj:NF 72 Tryz.f72:=fnx Tryz.func72
def zKE:HBq 72:=kq
def yBE:NF 73 Tryz.f73:=fnx Tryz.func73
def yH4:HBq 73:=kq
def yCr:NF 74 Tryz.f74:=fnx Tryz.func74
def yHx:HBq 74:=kq
def yCi:NF 75 Tryz.f75:=fnx Tryz.func75
def yIS:HBq 75:=kq
def zSm:NF 76 Tryz.f76:=fnx Tryz.func76
def zTX:NF 77 Tryz.f77:=fnx Tryz.func77
def zBP:HBq 77:=kq
def zBk:NF 78 Tryz.f78:=fnx Tryz.func78
def zWH:HBq 78:=kq
def zTs:NF 79 Tryz.f79:=fnx Tryz.func79
def jK:HBq 79:=kq
def zUl:NF 80 Tryz.f80:=fnx Tryz.func80
def zWG:HBq 80:=kq
def zSo:NF 81 Tryz.f81:=fnx Tryz.func81
def zBW:HBq 81:=kq
def yEQ:NF 82 Tryz.f82:=fnx Tryz.func82
def yJi:HBq 82:=kq
def yDl:NF 83 Tryz.f83:=fnx Tryz.func83
def yHb:HBq 83:=kq
def yA2:NF 84 Tryz.f84:=fnx Tryz.func84
def yI0:HBq 84:=kq
def zUe:NF 85 Tryz.f85:=fnx Tryz.func85
def yH9:HBq 85:=kq
def zUR:NF 86 Tryz.f86:=fnx Tryz.func86
def zNx:HBq 86:=kq
def zOt:NF 87 Tryz.f87:=fnx Tryz.func87
def zDT:HBq 87:=kq
def zR4:NF 88 Tryz.f88:=fnx Tryz.func88
def zNy:HBq 88:=kq
def yDU:NF 94 Tryz.f94:=fnx Tryz.func94
def zXn:HBq 94:=kq
def yDX:NF 95 Tryz.f95:=fnx Tryz.func95
def zQ3:HBq 95:=kq
def yFU:NF 96 Tryz.f96:=fnx Tryz.func96
def zRl:HBq 96:=kq
def yGj:NF 97 Tryz.f97:=fnx Tryz.func97
def zRk:HBq 97:=kq
def yCH:NF 98 Tryz.f98:=fnx Tryz.func98
def zQH:HBq 98:=kq
def yCR:NF 99 Tryz.f99:=fnx Tryz.func99
def zNv:HBq 99:=kq
def yAu:NF 100 Tryz.f100:=fnx Tryz.func100
def zOC:HBq 100:=kq
def zZU:NF 101 Tryz.f101:=fnx Tryz.func101
def zCZ:HBq 101:=kq
def zZ8:NF 102 Tryz.f102:=fnx Tryz.func102
def zLs:HBq 102:=kq
def zZF:NF 103 Tryz.f103:=fnx Tryz.func103
def zF6:HBq 103:=kq
def zX7:NF 104 Tryz.f104:=fnx Tryz.func104
def zEZ:HBq 104:=kq
def zYQ:NF 105 Tryz.f105:=fnx Tryz.func105
def zSZ:HBq 105:=kq
def yAz:NF 106 Tryz.f106:=fnx Tryz.func106
def yF0:HBq 106:=kq
def zP3:NF 107 Tryz.f107:=fnx Tryz.func107
def zBD:HBq 107:=kq
def yEK:HBq 108:=kq
def zZr:NF 109 Tryz.f109:=fnx Tryz.func109
def zBI:HBq 109:=kq
def yAE:NF 110 Tryz.f110:=fnx Tryz.func110
def zAI:HBq 110:=kq
def zQi:NF 111 Tryz.f111:=fnx Tryz.func111
def zBr:HBq 111:=kq
def zQh:NF 112 Tryz.f112:=fnx Tryz.func112
def zBJ:HBq 112:=kq
def zQk:NF 113 Tryz.f113:=fnx Tryz.func113
def zBO:HBq 113:=kq
def yAh:NF 114 Tryz.f114:=fnx Tryz.func114
def yGG:HBq 114:=kq
def zPU:NF 115 Tryz.f115:=fnx Tryz.func115
def zD0:HBq 115:=kq
def zYD:NF 116 Tryz.f116:=fnx Tryz.func116
def yGY:HBq 116:=kq
def yAK:NF 117 Tryz.f117:=fnx Tryz.func117
def zOX:HBq 117:=kq
def zZv:NF 118 Tryz.f118:=fnx Tryz.func118
def yF3:HBq 118:=kq
def zXE:NF 119 Tryz.f119:=fnx Tryz.func119
def yBl:HBq 119:=kq
def zX5:NF 120 Tryz.f120:=fnx Tryz.func120
def yDC:HBq 120:=kq
def zZf:NF 121 Tryz.f121:=fnx Tryz.func121
def yDD:HBq 121:=kq
def zXt:NF 122 Tryz.f122:=fnx Tryz.func122
def yGc:HBq 122:=kq
def zYl:NF 123 Tryz.f123:=fnx Tryz.func123
def yBX:HBq 123:=kq
def yAn:NF 124 Tryz.f124:=fnx Tryz.func124
def zST:HBq 124:=kq
def zXr:NF 125 Tryz.f125:=fnx Tryz.func125
def yDN:HBq 125:=kq
def yFe:HBq 126:=kq
def zZV:NF 127 Tryz.f127:=fnx Tryz.func127
def yEx:HBq 127:=kq
def zXp:NF 128 Tryz.f128:=fnx Tryz.func128
def yEw:HBq 128:=kq
def zZL:NF 129 Tryz.f129:=fnx Tryz.func129
def yBn:HBq 129:=kq
def zZ9:NF 130 Tryz.f130:=fnx Tryz.func130
def zUp:HBq 130:=kq
def zZ0:NF 131 Tryz.f131:=fnx Tryz.func131
def yDJ:HBq 131:=kq
def zYt:NF 132 Tryz.f132:=fnx Tryz.func132
def yGd:HBq 132:=kq
def zI1:NF 133 Tryz.f133:=fnx Tryz.func133
def zIp:HBq 133:=kq
def yAB:NF 134 Tryz.f134:=fnx Tryz.func134
def yDh:HBq 134:=kq
def zYP:NF 135 Tryz.f135:=fnx Tryz.func135
def zGl:HBq 135:=kq
def zZP:NF 136 Tryz.f136:=fnx Tryz.func136
def zUG:HBq 136:=kq
def zYK:NF 137 Tryz.f137:=fnx Tryz.func137
def yCX:HBq 137:=kq
def zZN:NF 138 Tryz.f138:=fnx Tryz.func138
def yEW:HBq 138:=kq
def zZw:NF 139 Tryz.f139:=fnx Tryz.func139
def yCx:HBq 139:=kq
def zZy:NF 140 Tryz.f140:=fnx Tryz.func140
def yDy:HBq 140:=kq
def zYw:NF 141 Tryz.f141:=fnx Tryz.func141
def yCP:HBq 141:=kq
def zYm:NF 142 Tryz.f142:=fnx Tryz.func142
def yGs:HBq 142:=kq
def zZj:NF 143 Tryz.f143:=fnx Tryz.func143
def yCK:HBq 143:=kq
def yAb:NF 144 Tryz.f144:=fnx Tryz.func144
def zUm:HBq 144:=kq
def zYZ:NF 145 Tryz.f145:=fnx Tryz.func145
def yGx:HBq 145:=kq
def yAi:NF 146 Tryz.f146:=fnx Tryz.func146
def yEq:HBq 146:=kq
def zZS:NF 148 Tryz.f148:=fnx Tryz.func148
def zHM:HBq 148:=kq
def zY6:NF 151 Tryz.f151:=fnx Tryz.func151
def zUY:HBq 151:=kq
def zYF:NF 152 Tryz.f152:=fnx Tryz.func152
def zSJ:HBq 152:=kq
def zZH:NF 153 Tryz.f153:=fnx Tryz.func153
def zE4:HBq 153:=kq
def zXu:NF 154 Tryz.f154:=fnx Tryz.func154
def zUT:HBq 154:=kq
def zYY:NF 155 Tryz.f155:=fnx Tryz.func155
def zLB:HBq 155:=kq
def zYq:NF 156 Tryz.f156:=fnx Tryz.func156
def yCu:HBq 156:=kq
def zY8:NF 157 Tryz.f157:=fnx Tryz.func157
def yC0:HBq 157:=kq
def zD6:HBq 158:=kq
def yAv:NF 159 Tryz.f159:=fnx Tryz.func159
def zD5:HBq 159:=kq
def zYU:NF 160 Tryz.f160:=fnx Tryz.func160
def zDV:HBq 160:=kq
def zPZ:NF 161 Tryz.f161:=fnx Tryz.func161
def zKK:HBq 161:=kq
def zYe:NF 163 Tryz.f163:=fnx Tryz.func163
def zUX:HBq 163:=kq
def zY4:NF 164 Tryz.f164:=fnx Tryz.func164
def zGh:HBq 164:=kq
def yAJ:NF 165 Tryz.f165:=fnx Tryz.func165
def yCU:HBq 165:=kq
def zY5:NF 166 Tryz.f166:=fnx Tryz.func166
def zUA:HBq 166:=kq
def zYb:NF 167 Tryz.f167:=fnx Tryz.func167
def yB7:HBq 167:=kq
def zYy:NF 168 Tryz.f168:=fnx Tryz.func168
def zOx:HBq 168:=kq
def zXJ:NF 169 Tryz.f169:=fnx Tryz.func169
def yFt:HBq 169:=kq
def zYs:NF 170 Tryz.f170:=fnx Tryz.func170
def zOO:HBq 170:=kq
def zYv:NF 171 Tryz.f171:=fnx Tryz.func171
def yCc:HBq 171:=kq
def zY9:NF 173 Tryz.f173:=fnx Tryz.func173
def yB3:HBq 173:=kq
def zZ4:NF 174 Tryz.f174:=fnx Tryz.func174
def zKi:HBq 174:=kq
def yAk:NF 175 Tryz.f175:=fnx Tryz.func175
def zTw:HBq 175:=kq
def zZs:NF 176 Tryz.f176:=fnx Tryz.func176
def zUd:HBq 176:=kq
def zZz:NF 177 Tryz.f177:=fnx Tryz.func177
def zR2:HBq 177:=kq
def zXY:NF 178 Tryz.f178:=fnx Tryz.func178
def yGB:HBq 178:=kq
def zY3:NF 179 Tryz.f179:=fnx Tryz.func179
def yDK:HBq 179:=kq
def yAx:NF 180 Tryz.f180:=fnx Tryz.func180
def yBN:HBq 180:=kq
def zZu:NF 181 Tryz.f181:=fnx Tryz.func181
def zT6:HBq 181:=kq
def zYp:NF 182 Tryz.f182:=fnx Tryz.func182
def yBf:HBq 182:=kq
def zPY:NF 185 Tryz.f185:=fnx Tryz.func185
def yAg:NF 186 Tryz.f186:=fnx Tryz.func186
def qP:HBq 186:=kq
def zXM:NF 189 Tryz.f189:=fnx Tryz.func189
def zF7:HBq 189:=kq
def zZW:NF 190 Tryz.f190:=fnx Tryz.func190
def zKa:HBq 190:=kq
def zXT:NF 191 Tryz.f191:=fnx Tryz.func191
def zNW:HBq 191:=kq
def zZg:NF 192 Tryz.f192:=fnx Tryz.func192
def zNI:HBq 192:=kq
def yAF:NF 193 Tryz.f193:=fnx Tryz.func193
def zLa:HBq 193:=kq
def zZA:NF 194 Tryz.f194:=fnx Tryz.func194
def yCV:HBq 194:=kq
def zXC:NF 195 Tryz.f195:=fnx Tryz.func195
def zEf:HBq 195:=kq
def zD3:HBq 196:=kq
def zZM:NF 197 Tryz.f197:=fnx Tryz.func197
def zD9:HBq 197:=kq
def zCY:HBq 198:=kq
def zYr:NF 199 Tryz.f199:=fnx Tryz.func199
def zC5:HBq 199:=kq
def zXG:NF 200 Tryz.f200:=fnx Tryz.func200
def zC9:HBq 200:=kq
def zCV:HBq 201:=kq
def zR8:HBq 202:=kq
def zXw:NF 203 Tryz.f203:=fnx Tryz.func203
def yGF:HBq 203:=kq
def zY7:NF 204 Tryz.f204:=fnx Tryz.func204
def yAM:HBq 204:=kq
def zX6:NF 205 Tryz.f205:=fnx Tryz.func205
def yGR:HBq 205:=kq
def zX4:NF 207 Tryz.f207:=fnx Tryz.func207
def yBd:HBq 207:=kq
def zYR:NF 208 Tryz.f208:=fnx Tryz.func208
def yBQ:HBq 208:=kq
def yAA:NF 209 Tryz.f209:=fnx Tryz.func209
def zS8:HBq 209:=kq
def zYn:NF 210 Tryz.f210:=fnx Tryz.func210
def yFY:HBq 210:=kq
def zYH:NF 211 Tryz.f211:=fnx Tryz.func211
def zUt:HBq 211:=kq
def zYf:NF 212 Tryz.f212:=fnx Tryz.func212
def yET:HBq 212:=kq
def zXx:NF 213 Tryz.f213:=fnx Tryz.func213
def yF4:HBq 213:=kq
def zZQ:NF 215 Tryz.f215:=fnx Tryz.func215
def zUD:HBq 215:=kq
def zZd:NF 216 Tryz.f216:=fnx Tryz.func216
def yCS:HBq 216:=kq
def zXZ:NF 217 Tryz.f217:=fnx Tryz.func217
def zHZ:HBq 217:=kq
def zXR:NF 218 Tryz.f218:=fnx Tryz.func218
def zLw:HBq 218:=kq
def zYV:NF 219 Tryz.f219:=fnx Tryz.func219
def zKA:HBq 219:=kq
def zXq:NF 220 Tryz.f220:=fnx Tryz.func220
def zTk:HBq 220:=kq
def zXo:NF 221 Tryz.f221:=fnx Tryz.func221
def zUv:HBq 221:=kq
def zXI:NF 223 Tryz.f223:=fnx Tryz.func223
def yGO:HBq 223:=kq
def zZh:NF 224 Tryz.f224:=fnx Tryz.func224
def yE4:HBq 224:=kq
def zZt:NF 225 Tryz.f225:=fnx Tryz.func225
def yCo:HBq 225:=kq
def zX9:NF 226 Tryz.f226:=fnx Tryz.func226
def yBt:HBq 226:=kq
def yAe:NF 227 Tryz.f227:=fnx Tryz.func227
def yFk:HBq 227:=kq
def zXH:NF 228 Tryz.f228:=fnx Tryz.func228
def yFu:HBq 228:=kq
def zZT:NF 229 Tryz.f229:=fnx Tryz.func229
def yCA:HBq 229:=kq
def zAo:NF 230 Tryz.f230:=fnx Tryz.func230
def yAU:HBq 230:=kq
def zX8:NF 233 Tryz.f233:=fnx Tryz.func233
def yGa:HBq 233:=kq
def zLX:NF 234 Tryz.f234:=fnx Tryz.func234
def zJ9:HBq 234:=kq
def zXs:NF 235 Tryz.f235:=fnx Tryz.func235
def yCn:HBq 235:=kq
def yCL:HBq 239:=kq
def yD3:HBq 240:=kq
def zZn:NF 241 Tryz.f241:=fnx Tryz.func241
def yDi:HBq 241:=kq
def zZ2:NF 242 Tryz.f242:=fnx Tryz.func242
def yFO:HBq 242:=kq
def zZa:NF 243 Tryz.f243:=fnx Tryz.func243
def yEy:HBq 243:=kq
def zZK:NF 244 Tryz.f244:=fnx Tryz.func244
def yCQ:HBq 244:=kq
def zZl:NF 245 Tryz.f245:=fnx Tryz.func245
def yGH:HBq 245:=kq
def yAy:NF 246 Tryz.f246:=fnx Tryz.func246
def yBu:HBq 246:=kq
def zXS:NF 250 Tryz.f250:=fnx Tryz.func250
def yGU:HBq 250:=kq
def yAd:NF 251 Tryz.f251:=fnx Tryz.func251
def yFw:HBq 251:=kq
def yAr:NF 252 Tryz.f252:=fnx Tryz.func252
def yFG:HBq 252:=kq
def zZZ:NF 253 Tryz.f253:=fnx Tryz.func253
def yC4:HBq 253:=kq
def zPM:NF 254 Tryz.f254:=fnx Tryz.func254
def zHT:HBq 254:=kq
def zIS:NF 255 Tryz.f255:=fnx Tryz.func255
def zTc:HBq 255:=kq
def zIR:NF 256 Tryz.f256:=fnx Tryz.func256
def zBm:HBq 256:=kq
def zBc:NF 257 Tryz.f257:=fnx Tryz.func257
def zBo:HBq 257:=kq
def zL5:NF 258 Tryz.f258:=fnx Tryz.func258
def zBK:HBq 258:=kq
def zIy:NF 259 Tryz.f259:=fnx Tryz.func259
def wZ:HBq 259:=kq
def zIT:NF 260 Tryz.f260:=fnx Tryz.func260
def jH:HBq 260:=kq
def zIz:NF 261 Tryz.f261:=fnx Tryz.func261
def zAJ:HBq 261:=kq
def zP8:NF 262 Tryz.f262:=fnx Tryz.func262
def zAf:HBq 262:=kq
def zL2:NF 263 Tryz.f263:=fnx Tryz.func263
def zOm:HBq 263:=kq
def zXF:NF 278 Tryz.f278:=fnx Tryz.func278
def yEb:HBq 278:=kq
def zXU:NF 279 Tryz.f279:=fnx Tryz.func279
def yDr:HBq 279:=kq
def zY2:NF 281 Tryz.f281:=fnx Tryz.func281
def yDf:HBq 281:=kq
def zXP:NF 282 Tryz.f282:=fnx Tryz.func282
def yCI:HBq 282:=kq
def zIJ:NF 283 Tryz.f283:=fnx Tryz.func283
def zHy:HBq 283:=kq
def zP2:NF 284 Tryz.f284:=fnx Tryz.func284
def zSD:HBq 284:=kq
def yAD:NF 285 Tryz.f285:=fnx Tryz.func285
def zOY:HBq 285:=kq
def zZo:NF 292 Tryz.f292:=fnx Tryz.func292
def yCD:HBq 292:=kq
abbrev UNq (t:TypeId) v:=und Tryz.prog t=some v
abbrev SZq (t:TypeId) v:=sizeOf? Tryz.prog t=some v
abbrev AGq (t:TypeId) v:=agg? Tryz.prog t=some v
abbrev ZCq (t:TypeId) v:=zeroCells Tryz.prog t=some v
abbrev ZEq (t:TypeId) v:=zEX Tryz.prog t=some v
abbrev RSq (f:Func) v:=f.results.toList=v
abbrev THq (t:FuncId):Prop:=CC.thaw t=false
abbrev KPq (f k:Nat) v:=zA f k=some v
def c2{a b:Prop}(x:a)(y:b):a∧b:=⟨x,y⟩
def c3{a b c:Prop}(x:a)(y:b)(z:c):a∧b∧c:=⟨x,y,z⟩
def c5{a b c d e:Prop}(x:a)(y:b)(z:c)(u:d)(v:e):a∧b∧c∧d∧e:=⟨x,y,z,u,v⟩
def zF:UNq 2 (.int .i64)∧SZq 2 1∧AGq 2 false∧ZCq 2 [.t (.int .i64 (0))]∧ZEq 2 [.t (.int .i64 (0))]∧(∀(n:Nat),small Tryz.prog 2 n=(true&&decide (n<4294967296)&&true)):=⟨zXd,kq,zWO,kq,kq,fun _=>by kernel_rfl⟩
def zG:UNq 3 (.int .i64)∧SZq 3 1∧AGq 3 false∧ZCq 3 [.t (.int .i64 (0))]∧ZEq 3 [.t (.int .i64 (0))]∧(∀(n:Nat),small Tryz.prog 3 n=(true&&decide (n<4294967296)&&true)):=⟨kq,zSS,kq,kq,kq,fun _=>by kernel_rfl⟩
def zN:UNq 4 .bool∧SZq 4 1∧AGq 4 false∧ZCq 4 [.t (.bool false)]∧ZEq 4 [.t (.bool false)]∧(∀(n:Nat),small Tryz.prog 4 n=(true&&decide (n<4294967296)&&true))∧(yH Tryz.prog 4=true):=kq
def zE:UNq 5 (.int .u8)∧SZq 5 1∧AGq 5 false∧ZCq 5 [.t (.int .u8 (0))]∧ZEq 5 [.t (.int .u8 (0))]∧(∀(n:Nat),small Tryz.prog 5 n=(true&&decide (n<4294967296)&&true)):=⟨zWI,kq,zWR,kq,kq,fun _=>by kernel_rfl⟩
def zD:UNq 9 .string∧SZq 9 1∧AGq 9 false∧ZCq 9 [.t (.str [])]∧ZEq 9 [.t (.str [])]∧(∀(n:Nat),small Tryz.prog 9 n=(true&&decide (n<4294967296)&&true))∧(yH Tryz.prog 9=true):=⟨zFs,kq,zW4,kq,kq,fun _=>by kernel_rfl,kq⟩
def zNu:SZq 20 1∧AGq 20 false∧ZCq 20 [.t (.nilifc)]∧ZEq 20 [.t (.nilifc)]∧(∀(n:Nat),small Tryz.prog 20 n=(true&&decide (n<4294967296)&&true))∧(yH Tryz.prog 20=true):=kq
def zNr:UNq 21 (.int .i32)∧SZq 21 1∧AGq 21 false∧ZCq 21 [.t (.int .i32 (0))]∧ZEq 21 [.t (.int .i32 (0))]∧(∀(n:Nat),small Tryz.prog 21 n=(true&&decide (n<4294967296)&&true)):=kq
def zC:(∀(x:AV),zS Tryz.prog 23 x 0=retO (yB 0 x))∧(∀(x:AV),yD Tryz.prog 23 x 0=match zZ x with|some cs=>retO (part Tryz.prog 5 cs 0)|none=>none)∧(∀(x:AV),zS Tryz.prog 23 x 1=retO (yB 1 x))∧(∀(x:AV),yD Tryz.prog 23 x 1=match zZ x with|some cs=>retO (part Tryz.prog 2 cs 1)|none=>none)∧(∀(x:AV),zS Tryz.prog 23 x 2=retO (yB 2 x))∧(∀(x:AV),yD Tryz.prog 23 x 2=match zZ x with|some cs=>retO (part Tryz.prog 9 cs 2)|none=>none)∧(∀(ps:List (Nat×AV)),build Tryz.prog 23 ps=(yF Tryz.prog [(0,1),(1,1),(2,1)] [.t (.int .u8 (0)),.t (.int .i64 (0)),.t (.str [])] ps).map mkAgg)∧SZq 23 3∧AGq 23 true∧ZCq 23 [.t (.int .u8 (0)),.t (.int .i64 (0)),.t (.str [])]∧ZEq 23 [.t (.int .u8 (0)),.t (.int .i64 (0)),.t (.str [])]∧(∀(n:Nat),small Tryz.prog 23 n=(true&&decide (n<4294967296)&&true))∧(yH Tryz.prog 23=true):=⟨fun _=>by kernel_rfl,fun _=>by kernel_rfl,fun _=>by kernel_rfl,fun _=>by kernel_rfl,fun _=>by kernel_rfl,fun _=>by kernel_rfl,fun _=>by kernel_rfl,kq,kq,kq,kq,zVq,kq⟩
def zDP:UNq 24 (.slice 45)∧SZq 24 1∧AGq 24 false∧ZCq 24 [.t (.sl true true [])]∧ZEq 24 [.t (.sl true true [])]∧(∀(n:Nat),small Tryz.prog 24 n=(true&&decide (n<4294967296)&&true))∧(yH Tryz.prog 24=true):=kq
def zT:UNq 28 (.slice 115)∧SZq 28 1∧AGq 28 false∧ZCq 28 [.t (.sl true true [])]∧ZEq 28 [.t (.sl true true [])]∧(∀(n:Nat),small Tryz.prog 28 n=(true&&decide (n<4294967296)&&true))∧(yH Tryz.prog 28=true):=kq
def zL:(∀(x:AV),zS Tryz.prog 30 x 0=retO (yB 0 x))∧(∀(x:AV),yD Tryz.prog 30 x 0=match zZ x with|some cs=>retO (part Tryz.prog 3 cs 0)|none=>none)∧(∀(x:AV),zS Tryz.prog 30 x 1=retO (yB 1 x))∧(∀(x:AV),yD Tryz.prog 30 x 1=match zZ x with|some cs=>retO (part Tryz.prog 3 cs 1)|none=>none)∧(∀(ps:List (Nat×AV)),build Tryz.prog 30 ps=(yF Tryz.prog [(0,1),(1,1)] [.t (.int .i64 (0)),.t (.int .i64 (0))] ps).map mkAgg)∧SZq 30 2∧AGq 30 true∧ZCq 30 [.t (.int .i64 (0)),.t (.int .i64 (0))]∧ZEq 30 [.t (.int .i64 (0)),.t (.int .i64 (0))]∧(∀(n:Nat),small Tryz.prog 30 n=(true&&decide (n<4294967296)&&true))∧(yH Tryz.prog 30=true):=kq
def zQ:UNq 31 (.int .i64)∧SZq 31 1∧AGq 31 false∧ZCq 31 [.t (.int .i64 (0))]∧ZEq 31 [.t (.int .i64 (0))]∧(∀(n:Nat),small Tryz.prog 31 n=(true&&decide (n<4294967296)&&true)):=kq
def zNw:UNq 34 (.array 2 9)∧SZq 34 2∧AGq 34 true∧ZCq 34 [.t (.str []),.t (.str [])]∧ZEq 34 [.t (.str []),.t (.str [])]∧(∀(n:Nat),small Tryz.prog 34 n=(true&&decide (n<4294967296)&&true))∧(yH Tryz.prog 34=true):=kq
def zNm:UNq 35 (.array 2 34)∧SZq 35 4∧AGq 35 true∧ZCq 35 [.t (.str []),.t (.str []),.t (.str []),.t (.str [])]∧ZEq 35 [.t (.str []),.t (.str []),.t (.str []),.t (.str [])]∧(∀(n:Nat),small Tryz.prog 35 n=(true&&decide (n<4294967296)&&true))∧(yH Tryz.prog 35=true):=kq
def xU:UNq 37 (.slice 71)∧SZq 37 1∧AGq 37 false∧ZCq 37 [.t (.sl true true [])]∧ZEq 37 [.t (.sl true true [])]∧(∀(n:Nat),small Tryz.prog 37 n=(true&&decide (n<4294967296)&&true))∧(yH Tryz.prog 37=true):=kq
def zDG:(∀(x:AV),zS Tryz.prog 45 x 0=retO (yB 0 x))∧(∀(x:AV),yD Tryz.prog 45 x 0=match zZ x with|some cs=>retO (part Tryz.prog 9 cs 0)|none=>none)∧(∀(x:AV),zS Tryz.prog 45 x 1=retO (yB 1 x))∧(∀(x:AV),yD Tryz.prog 45 x 1=match zZ x with|some cs=>retO (part Tryz.prog 23 cs 1)|none=>none)∧(∀(ps:List (Nat×AV)),build Tryz.prog 45 ps=(yF Tryz.prog [(0,1),(1,3)] [.t (.str []),.t (.int .u8 (0)),.t (.int .i64 (0)),.t (.str [])] ps).map mkAgg)∧SZq 45 4∧AGq 45 true∧ZCq 45 [.t (.str []),.t (.int .u8 (0)),.t (.int .i64 (0)),.t (.str [])]∧ZEq 45 [.t (.str []),.t (.int .u8 (0)),.t (.int .i64 (0)),.t (.str [])]∧(∀(n:Nat),small Tryz.prog 45 n=(true&&decide (n<4294967296)&&true))∧(yH Tryz.prog 45=true):=kq
def uX:UNq 50 (.slice 9)∧SZq 50 1∧AGq 50 false∧ZCq 50 [.t (.sl true true [])]∧ZEq 50 [.t (.sl true true [])]∧(∀(n:Nat),small Tryz.prog 50 n=(true&&decide (n<4294967296)&&true))∧(yH Tryz.prog 50=true):=kq
def zU:UNq 55 (.slice 61)∧SZq 55 1∧AGq 55 false∧ZCq 55 [.t (.sl true true [])]∧ZEq 55 [.t (.sl true true [])]∧(∀(n:Nat),small Tryz.prog 55 n=(true&&decide (n<4294967296)&&true))∧(yH Tryz.prog 55=true):=kq
def zR:(∀(x:AV),zS Tryz.prog 61 x 0=retO (yB 0 x))∧(∀(x:AV),yD Tryz.prog 61 x 0=match zZ x with|some cs=>retO (part Tryz.prog 5 cs 0)|none=>none)∧(∀(x:AV),zS Tryz.prog 61 x 1=retO (yB 1 x))∧(∀(x:AV),yD Tryz.prog 61 x 1=match zZ x with|some cs=>retO (part Tryz.prog 9 cs 1)|none=>none)∧(∀(x:AV),zS Tryz.prog 61 x 2=retO (yB 2 x))∧(∀(x:AV),yD Tryz.prog 61 x 2=match zZ x with|some cs=>retO (part Tryz.prog 23 cs 2)|none=>none)∧(∀(x:AV),zS Tryz.prog 61 x 3=retO (yB 5 x))∧(∀(x:AV),yD Tryz.prog 61 x 3=match zZ x with|some cs=>retO (part Tryz.prog 30 cs 5)|none=>none)∧(∀(ps:List (Nat×AV)),build Tryz.prog 61 ps=(yF Tryz.prog [(0,1),(1,1),(2,3),(5,2)] [.t (.int .u8 (0)),.t (.str []),.t (.int .u8 (0)),.t (.int .i64 (0)),.t (.str []),.t (.int .i64 (0)),.t (.int .i64 (0))] ps).map mkAgg)∧SZq 61 7∧AGq 61 true∧ZCq 61 [.t (.int .u8 (0)),.t (.str []),.t (.int .u8 (0)),.t (.int .i64 (0)),.t (.str []),.t (.int .i64 (0)),.t (.int .i64 (0))]∧ZEq 61 [.t (.int .u8 (0)),.t (.str []),.t (.int .u8 (0)),.t (.int .i64 (0)),.t (.str []),.t (.int .i64 (0)),.t (.int .i64 (0))]∧(∀(n:Nat),small Tryz.prog 61 n=(true&&decide (n<4294967296)&&true))∧(yH Tryz.prog 61=true):=kq
def zFj:(∀(x:AV),zS Tryz.prog 67 x 0=retO (yB 0 x))∧(∀(x:AV),yD Tryz.prog 67 x 0=match zZ x with|some cs=>retO (part Tryz.prog 23 cs 0)|none=>none)∧(∀(x:AV),zS Tryz.prog 67 x 1=retO (yB 3 x))∧(∀(x:AV),yD Tryz.prog 67 x 1=match zZ x with|some cs=>retO (part Tryz.prog 31 cs 3)|none=>none)∧(∀(ps:List (Nat×AV)),build Tryz.prog 67 ps=(yF Tryz.prog [(0,3),(3,1)] [.t (.int .u8 (0)),.t (.int .i64 (0)),.t (.str []),.t (.int .i64 (0))] ps).map mkAgg)∧SZq 67 4∧AGq 67 true∧ZCq 67 [.t (.int .u8 (0)),.t (.int .i64 (0)),.t (.str []),.t (.int .i64 (0))]∧ZEq 67 [.t (.int .u8 (0)),.t (.int .i64 (0)),.t (.str []),.t (.int .i64 (0))]∧(∀(n:Nat),small Tryz.prog 67 n=(true&&decide (n<4294967296)&&true))∧(yH Tryz.prog 67=true):=kq
def zXf:UNq 68 (.slice 67)∧SZq 68 1∧AGq 68 false∧ZCq 68 [.t (.sl true true [])]∧ZEq 68 [.t (.sl true true [])]∧(∀(n:Nat),small Tryz.prog 68 n=(true&&decide (n<4294967296)&&true))∧(yH Tryz.prog 68=true):=kq
def zK:UNq 69 (.slice 3)∧SZq 69 1∧AGq 69 false∧ZCq 69 [.t (.sl true true [])]∧ZEq 69 [.t (.sl true true [])]∧(∀(n:Nat),small Tryz.prog 69 n=(true&&decide (n<4294967296)&&true))∧(yH Tryz.prog 69=true):=⟨zSb,kq,kq,kq,kq,fun _=>by kernel_rfl,kq⟩
def xM:(∀(x:AV),zS Tryz.prog 71 x 0=retO (yB 0 x))∧(∀(x:AV),yD Tryz.prog 71 x 0=match zZ x with|some cs=>retO (part Tryz.prog 5 cs 0)|none=>none)∧(∀(x:AV),zS Tryz.prog 71 x 1=retO (yB 1 x))∧(∀(x:AV),yD Tryz.prog 71 x 1=match zZ x with|some cs=>retO (part Tryz.prog 28 cs 1)|none=>none)∧(∀(x:AV),zS Tryz.prog 71 x 2=retO (yB 2 x))∧(∀(x:AV),yD Tryz.prog 71 x 2=match zZ x with|some cs=>retO (part Tryz.prog 28 cs 2)|none=>none)∧(∀(x:AV),zS Tryz.prog 71 x 3=retO (yB 3 x))∧(∀(x:AV),yD Tryz.prog 71 x 3=match zZ x with|some cs=>retO (part Tryz.prog 4 cs 3)|none=>none)∧(∀(x:AV),zS Tryz.prog 71 x 4=retO (yB 4 x))∧(∀(x:AV),yD Tryz.prog 71 x 4=match zZ x with|some cs=>retO (part Tryz.prog 4 cs 4)|none=>none)∧(∀(x:AV),zS Tryz.prog 71 x 5=retO (yB 5 x))∧(∀(x:AV),yD Tryz.prog 71 x 5=match zZ x with|some cs=>retO (part Tryz.prog 69 cs 5)|none=>none)∧(∀(x:AV),zS Tryz.prog 71 x 6=retO (yB 6 x))∧(∀(x:AV),yD Tryz.prog 71 x 6=match zZ x with|some cs=>retO (part Tryz.prog 30 cs 6)|none=>none)∧(∀(ps:List (Nat×AV)),build Tryz.prog 71 ps=(yF Tryz.prog [(0,1),(1,1),(2,1),(3,1),(4,1),(5,1),(6,2)] [.t (.int .u8 (0)),.t (.sl true true []),.t (.sl true true []),.t (.bool false),.t (.bool false),.t (.sl true true []),.t (.int .i64 (0)),.t (.int .i64 (0))] ps).map mkAgg)∧SZq 71 8∧AGq 71 true∧ZCq 71 [.t (.int .u8 (0)),.t (.sl true true []),.t (.sl true true []),.t (.bool false),.t (.bool false),.t (.sl true true []),.t (.int .i64 (0)),.t (.int .i64 (0))]∧ZEq 71 [.t (.int .u8 (0)),.t (.sl true true []),.t (.sl true true []),.t (.bool false),.t (.bool false),.t (.sl true true []),.t (.int .i64 (0)),.t (.int .i64 (0))]∧(∀(n:Nat),small Tryz.prog 71 n=(true&&decide (n<4294967296)&&true))∧(yH Tryz.prog 71=true):=kq
def zAl:UNq 82 (.pointer 84)∧SZq 82 1∧AGq 82 false∧ZCq 82 [.t (.nilptr)]∧ZEq 82 [.t (.nilptr)]∧(∀(n:Nat),small Tryz.prog 82 n=(true&&decide (n<4294967296)&&true))∧(yH Tryz.prog 82=true):=kq
def zAk:(∀(x:AV),zS Tryz.prog 84 x 0=retO (yB 0 x))∧(∀(x:AV),yD Tryz.prog 84 x 0=match zZ x with|some cs=>retO (part Tryz.prog 55 cs 0)|none=>none)∧(∀(x:AV),zS Tryz.prog 84 x 1=retO (yB 1 x))∧(∀(x:AV),yD Tryz.prog 84 x 1=match zZ x with|some cs=>retO (part Tryz.prog 3 cs 1)|none=>none)∧(∀(x:AV),zS Tryz.prog 84 x 2=retO (yB 2 x))∧(∀(x:AV),yD Tryz.prog 84 x 2=match zZ x with|some cs=>retO (part Tryz.prog 3 cs 2)|none=>none)∧(∀(x:AV),zS Tryz.prog 84 x 3=retO (yB 3 x))∧(∀(x:AV),yD Tryz.prog 84 x 3=match zZ x with|some cs=>retO (part Tryz.prog 28 cs 3)|none=>none)∧(∀(x:AV),zS Tryz.prog 84 x 4=retO (yB 4 x))∧(∀(x:AV),yD Tryz.prog 84 x 4=match zZ x with|some cs=>retO (part Tryz.prog 31 cs 4)|none=>none)∧(∀(x:AV),zS Tryz.prog 84 x 5=retO (yB 5 x))∧(∀(x:AV),yD Tryz.prog 84 x 5=match zZ x with|some cs=>retO (part Tryz.prog 3 cs 5)|none=>none)∧(∀(ps:List (Nat×AV)),build Tryz.prog 84 ps=(yF Tryz.prog [(0,1),(1,1),(2,1),(3,1),(4,1),(5,1)] [.t (.sl true true []),.t (.int .i64 (0)),.t (.int .i64 (0)),.t (.sl true true []),.t (.int .i64 (0)),.t (.int .i64 (0))] ps).map mkAgg)∧SZq 84 6∧AGq 84 true∧ZCq 84 [.t (.sl true true []),.t (.int .i64 (0)),.t (.int .i64 (0)),.t (.sl true true []),.t (.int .i64 (0)),.t (.int .i64 (0))]∧ZEq 84 [.t (.sl true true []),.t (.int .i64 (0)),.t (.int .i64 (0)),.t (.sl true true []),.t (.int .i64 (0)),.t (.int .i64 (0))]∧(∀(n:Nat),small Tryz.prog 84 n=(true&&decide (n<4294967296)&&true))∧(yH Tryz.prog 84=true):=kq
def yJn:UNq 89 (.pointer 3)∧SZq 89 1∧AGq 89 false∧ZCq 89 [.t (.nilptr)]∧ZEq 89 [.t (.nilptr)]∧(∀(n:Nat),small Tryz.prog 89 n=(true&&decide (n<4294967296)&&true))∧(yH Tryz.prog 89=true):=kq
def zXc:SZq 92 1∧AGq 92 false∧ZCq 92 [.t (.nilfn)]∧ZEq 92 [.t (.nilfn)]∧(∀(n:Nat),small Tryz.prog 92 n=(true&&decide (n<4294967296)&&true))∧(yH Tryz.prog 92=true):=kq
def yId:SZq 93 1∧AGq 93 false∧ZCq 93 [.t (.nilfn)]∧ZEq 93 [.t (.nilfn)]∧(∀(n:Nat),small Tryz.prog 93 n=(true&&decide (n<4294967296)&&true))∧(yH Tryz.prog 93=true):=kq
def wV:UNq 94 (.pointer 131)∧SZq 94 1∧AGq 94 false∧ZCq 94 [.t (.nilptr)]∧ZEq 94 [.t (.nilptr)]∧(∀(n:Nat),small Tryz.prog 94 n=(true&&decide (n<4294967296)&&true))∧(yH Tryz.prog 94=true):=kq
def zKF:UNq 95 (.slice 5)∧SZq 95 1∧AGq 95 false∧ZCq 95 [.t (.sl true true [])]∧ZEq 95 [.t (.sl true true [])]∧(∀(n:Nat),small Tryz.prog 95 n=(true&&decide (n<4294967296)&&true))∧(yH Tryz.prog 95=true):=kq
def zW9:UNq 96 (.slice 28)∧SZq 96 1∧AGq 96 false∧ZCq 96 [.t (.sl true true [])]∧ZEq 96 [.t (.sl true true [])]∧(∀(n:Nat),small Tryz.prog 96 n=(true&&decide (n<4294967296)&&true))∧(yH Tryz.prog 96=true):=kq
def zH8:SZq 102 1∧AGq 102 false∧ZCq 102 [.t (.nilfn)]∧ZEq 102 [.t (.nilfn)]∧(∀(n:Nat),small Tryz.prog 102 n=(true&&decide (n<4294967296)&&true))∧(yH Tryz.prog 102=true):=kq
def zA2:(∀(x:AV),zS Tryz.prog 110 x 0=retO (yB 0 x))∧(∀(x:AV),yD Tryz.prog 110 x 0=match zZ x with|some cs=>retO (part Tryz.prog 9 cs 0)|none=>none)∧(∀(x:AV),zS Tryz.prog 110 x 1=retO (yB 1 x))∧(∀(x:AV),yD Tryz.prog 110 x 1=match zZ x with|some cs=>retO (part Tryz.prog 5 cs 1)|none=>none)∧(∀(x:AV),zS Tryz.prog 110 x 2=retO (yB 2 x))∧(∀(x:AV),yD Tryz.prog 110 x 2=match zZ x with|some cs=>retO (part Tryz.prog 5 cs 2)|none=>none)∧(∀(ps:List (Nat×AV)),build Tryz.prog 110 ps=(yF Tryz.prog [(0,1),(1,1),(2,1)] [.t (.str []),.t (.int .u8 (0)),.t (.int .u8 (0))] ps).map mkAgg)∧SZq 110 3∧AGq 110 true∧ZCq 110 [.t (.str []),.t (.int .u8 (0)),.t (.int .u8 (0))]∧ZEq 110 [.t (.str []),.t (.int .u8 (0)),.t (.int .u8 (0))]∧(∀(n:Nat),small Tryz.prog 110 n=(true&&decide (n<4294967296)&&true))∧(yH Tryz.prog 110=true):=kq
def zA1:UNq 111 (.array 5 110)∧SZq 111 15∧AGq 111 true∧ZCq 111 [.t (.str []),.t (.int .u8 (0)),.t (.int .u8 (0)),.t (.str []),.t (.int .u8 (0)),.t (.int .u8 (0)),.t (.str []),.t (.int .u8 (0)),.t (.int .u8 (0)),.t (.str []),.t (.int .u8 (0)),.t (.int .u8 (0)),.t (.str []),.t (.int .u8 (0)),.t (.int .u8 (0))]∧ZEq 111 [.t (.str []),.t (.int .u8 (0)),.t (.int .u8 (0)),.t (.str []),.t (.int .u8 (0)),.t (.int .u8 (0)),.t (.str []),.t (.int .u8 (0)),.t (.int .u8 (0)),.t (.str []),.t (.int .u8 (0)),.t (.int .u8 (0)),.t (.str []),.t (.int .u8 (0)),.t (.int .u8 (0))]∧(∀(n:Nat),small Tryz.prog 111 n=(true&&decide (n<4294967296)&&true))∧(yH Tryz.prog 111=true):=kq
def zM:(∀(x:AV),zS Tryz.prog 115 x 0=retO (yB 0 x))∧(∀(x:AV),yD Tryz.prog 115 x 0=match zZ x with|some cs=>retO (part Tryz.prog 5 cs 0)|none=>none)∧(∀(x:AV),zS Tryz.prog 115 x 1=retO (yB 1 x))∧(∀(x:AV),yD Tryz.prog 115 x 1=match zZ x with|some cs=>retO (part Tryz.prog 23 cs 1)|none=>none)∧(∀(x:AV),zS Tryz.prog 115 x 2=retO (yB 4 x))∧(∀(x:AV),yD Tryz.prog 115 x 2=match zZ x with|some cs=>retO (part Tryz.prog 9 cs 4)|none=>none)∧(∀(x:AV),zS Tryz.prog 115 x 3=retO (yB 5 x))∧(∀(x:AV),yD Tryz.prog 115 x 3=match zZ x with|some cs=>retO (part Tryz.prog 69 cs 5)|none=>none)∧(∀(x:AV),zS Tryz.prog 115 x 4=retO (yB 6 x))∧(∀(x:AV),yD Tryz.prog 115 x 4=match zZ x with|some cs=>retO (part Tryz.prog 30 cs 6)|none=>none)∧(∀(ps:List (Nat×AV)),build Tryz.prog 115 ps=(yF Tryz.prog [(0,1),(1,3),(4,1),(5,1),(6,2)] [.t (.int .u8 (0)),.t (.int .u8 (0)),.t (.int .i64 (0)),.t (.str []),.t (.str []),.t (.sl true true []),.t (.int .i64 (0)),.t (.int .i64 (0))] ps).map mkAgg)∧SZq 115 8∧AGq 115 true∧ZCq 115 [.t (.int .u8 (0)),.t (.int .u8 (0)),.t (.int .i64 (0)),.t (.str []),.t (.str []),.t (.sl true true []),.t (.int .i64 (0)),.t (.int .i64 (0))]∧ZEq 115 [.t (.int .u8 (0)),.t (.int .u8 (0)),.t (.int .i64 (0)),.t (.str []),.t (.str []),.t (.sl true true []),.t (.int .i64 (0)),.t (.int .i64 (0))]∧(∀(n:Nat),small Tryz.prog 115 n=(true&&decide (n<4294967296)&&true))∧(yH Tryz.prog 115=true):=kq
def zE0:SZq 120 1∧AGq 120 false∧ZCq 120 [.t (.nilfn)]∧ZEq 120 [.t (.nilfn)]∧(∀(n:Nat),small Tryz.prog 120 n=(true&&decide (n<4294967296)&&true))∧(yH Tryz.prog 120=true):=kq
def zEe:SZq 121 1∧AGq 121 false∧ZCq 121 [.t (.nilfn)]∧ZEq 121 [.t (.nilfn)]∧(∀(n:Nat),small Tryz.prog 121 n=(true&&decide (n<4294967296)&&true))∧(yH Tryz.prog 121=true):=kq
def yCE:SZq 126 1∧AGq 126 false∧ZCq 126 [.t (.nilfn)]∧ZEq 126 [.t (.nilfn)]∧(∀(n:Nat),small Tryz.prog 126 n=(true&&decide (n<4294967296)&&true))∧(yH Tryz.prog 126=true):=kq
def xZ:(∀(x:AV),zS Tryz.prog 131 x 0=retO (yB 0 x))∧(∀(x:AV),yD Tryz.prog 131 x 0=match zZ x with|some cs=>retO (part Tryz.prog 55 cs 0)|none=>none)∧(∀(x:AV),zS Tryz.prog 131 x 1=retO (yB 1 x))∧(∀(x:AV),yD Tryz.prog 131 x 1=match zZ x with|some cs=>retO (part Tryz.prog 3 cs 1)|none=>none)∧(∀(x:AV),zS Tryz.prog 131 x 2=retO (yB 2 x))∧(∀(x:AV),yD Tryz.prog 131 x 2=match zZ x with|some cs=>retO (part Tryz.prog 3 cs 2)|none=>none)∧(∀(x:AV),zS Tryz.prog 131 x 3=retO (yB 3 x))∧(∀(x:AV),yD Tryz.prog 131 x 3=match zZ x with|some cs=>retO (part Tryz.prog 37 cs 3)|none=>none)∧(∀(ps:List (Nat×AV)),build Tryz.prog 131 ps=(yF Tryz.prog [(0,1),(1,1),(2,1),(3,1)] [.t (.sl true true []),.t (.int .i64 (0)),.t (.int .i64 (0)),.t (.sl true true [])] ps).map mkAgg)∧SZq 131 4∧AGq 131 true∧ZCq 131 [.t (.sl true true []),.t (.int .i64 (0)),.t (.int .i64 (0)),.t (.sl true true [])]∧ZEq 131 [.t (.sl true true []),.t (.int .i64 (0)),.t (.int .i64 (0)),.t (.sl true true [])]∧(∀(n:Nat),small Tryz.prog 131 n=(true&&decide (n<4294967296)&&true))∧(yH Tryz.prog 131=true):=kq
def zOR:(∀(x:AV),zS Tryz.prog 133 x 0=retO (yB 0 x))∧(∀(x:AV),yD Tryz.prog 133 x 0=match zZ x with|some cs=>retO (part Tryz.prog 3 cs 0)|none=>none)∧(∀(x:AV),zS Tryz.prog 133 x 1=retO (yB 1 x))∧(∀(x:AV),yD Tryz.prog 133 x 1=match zZ x with|some cs=>retO (part Tryz.prog 31 cs 1)|none=>none)∧(∀(ps:List (Nat×AV)),build Tryz.prog 133 ps=(yF Tryz.prog [(0,1),(1,1)] [.t (.int .i64 (0)),.t (.int .i64 (0))] ps).map mkAgg)∧SZq 133 2∧AGq 133 true∧ZCq 133 [.t (.int .i64 (0)),.t (.int .i64 (0))]∧ZEq 133 [.t (.int .i64 (0)),.t (.int .i64 (0))]∧(∀(n:Nat),small Tryz.prog 133 n=(true&&decide (n<4294967296)&&true))∧(yH Tryz.prog 133=true):=kq
def zNV:SZq 135 1∧AGq 135 false∧ZCq 135 [.t (.nilfn)]∧ZEq 135 [.t (.nilfn)]∧(∀(n:Nat),small Tryz.prog 135 n=(true&&decide (n<4294967296)&&true))∧(yH Tryz.prog 135=true):=kq
def jD:UNq 137 (.slice 139)∧SZq 137 1∧AGq 137 false∧ZCq 137 [.t (.sl true true [])]∧ZEq 137 [.t (.sl true true [])]∧(∀(n:Nat),small Tryz.prog 137 n=(true&&decide (n<4294967296)&&true))∧(yH Tryz.prog 137=true):=kq
def xI:(∀(x:AV),zS Tryz.prog 139 x 0=retO (yB 0 x))∧(∀(x:AV),yD Tryz.prog 139 x 0=match zZ x with|some cs=>retO (part Tryz.prog 23 cs 0)|none=>none)∧(∀(x:AV),zS Tryz.prog 139 x 1=retO (yB 3 x))∧(∀(x:AV),yD Tryz.prog 139 x 1=match zZ x with|some cs=>retO (part Tryz.prog 31 cs 3)|none=>none)∧(∀(ps:List (Nat×AV)),build Tryz.prog 139 ps=(yF Tryz.prog [(0,3),(3,1)] [.t (.int .u8 (0)),.t (.int .i64 (0)),.t (.str []),.t (.int .i64 (0))] ps).map mkAgg)∧SZq 139 4∧AGq 139 true∧ZCq 139 [.t (.int .u8 (0)),.t (.int .i64 (0)),.t (.str []),.t (.int .i64 (0))]∧ZEq 139 [.t (.int .u8 (0)),.t (.int .i64 (0)),.t (.str []),.t (.int .i64 (0))]∧(∀(n:Nat),small Tryz.prog 139 n=(true&&decide (n<4294967296)&&true))∧(yH Tryz.prog 139=true):=kq
def jI:UNq 140 (.slice 4)∧SZq 140 1∧AGq 140 false∧ZCq 140 [.t (.sl true true [])]∧ZEq 140 [.t (.sl true true [])]∧(∀(n:Nat),small Tryz.prog 140 n=(true&&decide (n<4294967296)&&true))∧(yH Tryz.prog 140=true):=kq
def jG:(∀(x:AV),zS Tryz.prog 142 x 0=retO (yB 0 x))∧(∀(x:AV),yD Tryz.prog 142 x 0=match zZ x with|some cs=>retO (part Tryz.prog 137 cs 0)|none=>none)∧(∀(x:AV),zS Tryz.prog 142 x 1=retO (yB 1 x))∧(∀(x:AV),yD Tryz.prog 142 x 1=match zZ x with|some cs=>retO (part Tryz.prog 140 cs 1)|none=>none)∧(∀(ps:List (Nat×AV)),build Tryz.prog 142 ps=(yF Tryz.prog [(0,1),(1,1)] [.t (.sl true true []),.t (.sl true true [])] ps).map mkAgg)∧SZq 142 2∧AGq 142 true∧ZCq 142 [.t (.sl true true []),.t (.sl true true [])]∧ZEq 142 [.t (.sl true true []),.t (.sl true true [])]∧(∀(n:Nat),small Tryz.prog 142 n=(true&&decide (n<4294967296)&&true))∧(yH Tryz.prog 142=true):=kq
def xV:UNq 149 (.slice 23)∧SZq 149 1∧AGq 149 false∧ZCq 149 [.t (.sl true true [])]∧ZEq 149 [.t (.sl true true [])]∧(∀(n:Nat),small Tryz.prog 149 n=(true&&decide (n<4294967296)&&true))∧(yH Tryz.prog 149=true):=kq
def zB7:SZq 157 1∧AGq 157 false∧ZCq 157 [.t (.nilifc)]∧ZEq 157 [.t (.nilifc)]∧(∀(n:Nat),small Tryz.prog 157 n=(true&&decide (n<4294967296)&&true))∧(yH Tryz.prog 157=true):=kq
def vX:(∀(x:AV),zS Tryz.prog 161 x 0=retO (yB 0 x))∧(∀(x:AV),yD Tryz.prog 161 x 0=match zZ x with|some cs=>retO (part Tryz.prog 4 cs 0)|none=>none)∧(∀(x:AV),zS Tryz.prog 161 x 1=retO (yB 1 x))∧(∀(x:AV),yD Tryz.prog 161 x 1=match zZ x with|some cs=>retO (part Tryz.prog 69 cs 1)|none=>none)∧(∀(ps:List (Nat×AV)),build Tryz.prog 161 ps=(yF Tryz.prog [(0,1),(1,1)] [.t (.bool false),.t (.sl true true [])] ps).map mkAgg)∧SZq 161 2∧AGq 161 true∧ZCq 161 [.t (.bool false),.t (.sl true true [])]∧ZEq 161 [.t (.bool false),.t (.sl true true [])]∧(∀(n:Nat),small Tryz.prog 161 n=(true&&decide (n<4294967296)&&true))∧(yH Tryz.prog 161=true):=kq
def yFq:UNq 174 (.slice 50)∧SZq 174 1∧AGq 174 false∧ZCq 174 [.t (.sl true true [])]∧ZEq 174 [.t (.sl true true [])]∧(∀(n:Nat),small Tryz.prog 174 n=(true&&decide (n<4294967296)&&true))∧(yH Tryz.prog 174=true):=kq
def yD0:UNq 175 (.array 4 9)∧SZq 175 4∧AGq 175 true∧ZCq 175 [.t (.str []),.t (.str []),.t (.str []),.t (.str [])]∧ZEq 175 [.t (.str []),.t (.str []),.t (.str []),.t (.str [])]∧(∀(n:Nat),small Tryz.prog 175 n=(true&&decide (n<4294967296)&&true))∧(yH Tryz.prog 175=true):=kq
def zBq:SZq 187 1∧AGq 187 false∧ZCq 187 [.t (.nilfn)]∧ZEq 187 [.t (.nilfn)]∧(∀(n:Nat),small Tryz.prog 187 n=(true&&decide (n<4294967296)&&true))∧(yH Tryz.prog 187=true):=kq
def zOr:SZq 189 1∧AGq 189 false∧ZCq 189 [.t (.nilfn)]∧ZEq 189 [.t (.nilfn)]∧(∀(n:Nat),small Tryz.prog 189 n=(true&&decide (n<4294967296)&&true))∧(yH Tryz.prog 189=true):=kq
def zEh:(∀(x:AV),zS Tryz.prog 208 x 0=retO (yB 0 x))∧(∀(x:AV),yD Tryz.prog 208 x 0=match zZ x with|some cs=>retO (part Tryz.prog 121 cs 0)|none=>none)∧(∀(ps:List (Nat×AV)),build Tryz.prog 208 ps=(yF Tryz.prog [(0,1)] [.t (.nilfn)] ps).map mkAgg)∧SZq 208 1∧AGq 208 true∧ZCq 208 [.t (.nilfn)]∧ZEq 208 [.t (.nilfn)]∧(∀(n:Nat),small Tryz.prog 208 n=(true&&decide (n<4294967296)&&true))∧(yH Tryz.prog 208=true):=kq
def zEa:UNq 210 (.map 5 208)∧SZq 210 1∧AGq 210 false∧ZCq 210 [.t (.nilmap)]∧ZEq 210 [.t (.nilmap)]∧(∀(n:Nat),small Tryz.prog 210 n=(true&&decide (n<4294967296)&&true))∧(yH Tryz.prog 210=true):=kq
def yJ:UNq 224 (.pointer 226)∧SZq 224 1∧AGq 224 false∧ZCq 224 [.t (.nilptr)]∧ZEq 224 [.t (.nilptr)]∧(∀(n:Nat),small Tryz.prog 224 n=(true&&decide (n<4294967296)&&true))∧(yH Tryz.prog 224=true):=kq
def yI:(∀(x:AV),zS Tryz.prog 226 x 0=retO (yB 0 x))∧(∀(x:AV),yD Tryz.prog 226 x 0=match zZ x with|some cs=>retO (part Tryz.prog 55 cs 0)|none=>none)∧(∀(x:AV),zS Tryz.prog 226 x 1=retO (yB 1 x))∧(∀(x:AV),yD Tryz.prog 226 x 1=match zZ x with|some cs=>retO (part Tryz.prog 3 cs 1)|none=>none)∧(∀(x:AV),zS Tryz.prog 226 x 2=retO (yB 2 x))∧(∀(x:AV),yD Tryz.prog 226 x 2=match zZ x with|some cs=>retO (part Tryz.prog 3 cs 2)|none=>none)∧(∀(x:AV),zS Tryz.prog 226 x 3=retO (yB 3 x))∧(∀(x:AV),yD Tryz.prog 226 x 3=match zZ x with|some cs=>retO (part Tryz.prog 28 cs 3)|none=>none)∧(∀(ps:List (Nat×AV)),build Tryz.prog 226 ps=(yF Tryz.prog [(0,1),(1,1),(2,1),(3,1)] [.t (.sl true true []),.t (.int .i64 (0)),.t (.int .i64 (0)),.t (.sl true true [])] ps).map mkAgg)∧SZq 226 4∧AGq 226 true∧ZCq 226 [.t (.sl true true []),.t (.int .i64 (0)),.t (.int .i64 (0)),.t (.sl true true [])]∧ZEq 226 [.t (.sl true true []),.t (.int .i64 (0)),.t (.int .i64 (0)),.t (.sl true true [])]∧(∀(n:Nat),small Tryz.prog 226 n=(true&&decide (n<4294967296)&&true))∧(yH Tryz.prog 226=true):=kq
def wR:UNq 227 (.int .i64)∧SZq 227 1∧AGq 227 false∧ZCq 227 [.t (.int .i64 (0))]∧ZEq 227 [.t (.int .i64 (0))]∧(∀(n:Nat),small Tryz.prog 227 n=(true&&decide (n<4294967296)&&true)):=kq
def zAh:UNq 244 (.int .u64)∧SZq 244 1∧AGq 244 false∧ZCq 244 [.t (.int .u64 (0))]∧ZEq 244 [.t (.int .u64 (0))]∧(∀(n:Nat),small Tryz.prog 244 n=(true&&decide (n<4294967296)&&true)):=kq
def zH5:SZq 250 1∧AGq 250 false∧ZCq 250 [.t (.nilfn)]∧ZEq 250 [.t (.nilfn)]∧(∀(n:Nat),small Tryz.prog 250 n=(true&&decide (n<4294967296)&&true))∧(yH Tryz.prog 250=true):=kq
def yBZ:UNq 262 (.array 8 93)∧SZq 262 8∧AGq 262 true∧ZCq 262 [.t (.nilfn),.t (.nilfn),.t (.nilfn),.t (.nilfn),.t (.nilfn),.t (.nilfn),.t (.nilfn),.t (.nilfn)]∧ZEq 262 [.t (.nilfn),.t (.nilfn),.t (.nilfn),.t (.nilfn),.t (.nilfn),.t (.nilfn),.t (.nilfn),.t (.nilfn)]∧(∀(n:Nat),small Tryz.prog 262 n=(true&&decide (n<4294967296)&&true))∧(yH Tryz.prog 262=true):=kq
def zBl:SZq 265 1∧AGq 265 false∧ZCq 265 [.t (.nilfn)]∧ZEq 265 [.t (.nilfn)]∧(∀(n:Nat),small Tryz.prog 265 n=(true&&decide (n<4294967296)&&true))∧(yH Tryz.prog 265=true):=kq
def yDk:UNq 270 (.int .u64)∧SZq 270 1∧AGq 270 false∧ZCq 270 [.t (.int .u64 (0))]∧ZEq 270 [.t (.int .u64 (0))]∧(∀(n:Nat),small Tryz.prog 270 n=(true&&decide (n<4294967296)&&true)):=kq
def zC2:(∀(x:AV),zS Tryz.prog 276 x 0=retO (yB 0 x))∧(∀(x:AV),yD Tryz.prog 276 x 0=match zZ x with|some cs=>retO (part Tryz.prog 9 cs 0)|none=>none)∧(∀(x:AV),zS Tryz.prog 276 x 1=retO (yB 1 x))∧(∀(x:AV),yD Tryz.prog 276 x 1=match zZ x with|some cs=>retO (part Tryz.prog 5 cs 1)|none=>none)∧(∀(ps:List (Nat×AV)),build Tryz.prog 276 ps=(yF Tryz.prog [(0,1),(1,1)] [.t (.str []),.t (.int .u8 (0))] ps).map mkAgg)∧SZq 276 2∧AGq 276 true∧ZCq 276 [.t (.str []),.t (.int .u8 (0))]∧ZEq 276 [.t (.str []),.t (.int .u8 (0))]∧(∀(n:Nat),small Tryz.prog 276 n=(true&&decide (n<4294967296)&&true))∧(yH Tryz.prog 276=true):=kq
def jE:(∀(x:AV),zS Tryz.prog 281 x 0=retO (yB 0 x))∧(∀(x:AV),yD Tryz.prog 281 x 0=match zZ x with|some cs=>retO (part Tryz.prog 5 cs 0)|none=>none)∧(∀(x:AV),zS Tryz.prog 281 x 1=retO (yB 1 x))∧(∀(x:AV),yD Tryz.prog 281 x 1=match zZ x with|some cs=>retO (part Tryz.prog 3 cs 1)|none=>none)∧(∀(x:AV),zS Tryz.prog 281 x 2=retO (yB 2 x))∧(∀(x:AV),yD Tryz.prog 281 x 2=match zZ x with|some cs=>retO (part Tryz.prog 3 cs 2)|none=>none)∧(∀(ps:List (Nat×AV)),build Tryz.prog 281 ps=(yF Tryz.prog [(0,1),(1,1),(2,1)] [.t (.int .u8 (0)),.t (.int .i64 (0)),.t (.int .i64 (0))] ps).map mkAgg)∧SZq 281 3∧AGq 281 true∧ZCq 281 [.t (.int .u8 (0)),.t (.int .i64 (0)),.t (.int .i64 (0))]∧ZEq 281 [.t (.int .u8 (0)),.t (.int .i64 (0)),.t (.int .i64 (0))]∧(∀(n:Nat),small Tryz.prog 281 n=(true&&decide (n<4294967296)&&true))∧(yH Tryz.prog 281=true):=kq
def zDd:UNq 310 (.slice 276)∧SZq 310 1∧AGq 310 false∧ZCq 310 [.t (.sl true true [])]∧ZEq 310 [.t (.sl true true [])]∧(∀(n:Nat),small Tryz.prog 310 n=(true&&decide (n<4294967296)&&true))∧(yH Tryz.prog 310=true):=kq
def yCd:UNq 312 (.map 9 23)∧SZq 312 1∧AGq 312 false∧ZCq 312 [.t (.nilmap)]∧ZEq 312 [.t (.nilmap)]∧(∀(n:Nat),small Tryz.prog 312 n=(true&&decide (n<4294967296)&&true))∧(yH Tryz.prog 312=true):=kq
def yBp:UNq 313 (.map 9 281)∧SZq 313 1∧AGq 313 false∧ZCq 313 [.t (.nilmap)]∧ZEq 313 [.t (.nilmap)]∧(∀(n:Nat),small Tryz.prog 313 n=(true&&decide (n<4294967296)&&true))∧(yH Tryz.prog 313=true):=kq
def zRE:KPq 3 9 [0,1,3,6,69,70]∧KPq 3 12 [0,1,3,6,16,69,70,75,76]∧RSq Tryz.f3 [.tmp 8]∧THq 3:=kq
def yJE:KPq 7 2 [1,2,7,8]∧RSq Tryz.f7 [.tmp 4]∧THq 7:=kq
def yBv:RSq Tryz.f9 [.tmp 2,.cell 3 30,.tmp 4]∧THq 9:=kq
def zLp:RSq Tryz.f10 [.tmp 2,.cell 3 30,.tmp 4]∧THq 10:=kq
def yHY:RSq Tryz.f11 [.tmp 6]∧THq 11:=kq
def yHC:KPq 12 4 [2,4,6,8,9,13,14,15]∧RSq Tryz.f12 [.cell 6 23,.tmp 7]∧THq 12:=kq
def zWF:KPq 17 7 [0,3,5,6,7,8,9]∧KPq 17 16 [0,3,5,6,7,8,9]∧RSq Tryz.f17 [.tmp 2,.cell 3 30,.tmp 4]∧THq 17:=kq
def yHn:RSq Tryz.f18 [.tmp 4,.tmp 5,.tmp 6]∧THq 18:=kq
def zW1:RSq Tryz.f19 [.cell 2 30]∧THq 19:=kq
def zRQ:KPq 20 6 [1,2,3,4]∧KPq 20 999999999 [20]∧RSq Tryz.f20 [.cell 2 55,.cell 3 30,.cell 4 31]∧THq 20:=kq
def yIu:RSq Tryz.f21 [.tmp 4,.tmp 5,.tmp 6]∧THq 21:=kq
def zWE:RSq Tryz.f22 [.cell 2 30]∧THq 22:=kq
def yHp:RSq Tryz.f23 [.tmp 4]∧THq 23:=kq
def yIp:KPq 24 3 [1,3,4,6,8,9,22,23,24]∧KPq 24 9 [3,4,6,8,9]∧KPq 24 14 [3,4,6,8,9,12,13,14,61,62]∧KPq 24 30 [8,18,127,128,129]∧RSq Tryz.f24 [.cell 8 67]∧THq 24:=kq
def yIN:RSq Tryz.f31 [.tmp 4]∧THq 31:=kq
def zNf:RSq Tryz.f32 [.cell 4 61,.tmp 5,.tmp 6]∧THq 32:=kq
def zNq:KPq 33 18 [0,1,8]∧RSq Tryz.f33 [.tmp 4]∧THq 33:=kq
def yI7:RSq Tryz.f34 [.tmp 2]∧THq 34:=kq
def yHu:RSq Tryz.f35 [.cell 2 61,.tmp 3,.tmp 4]∧THq 35:=kq
def yHr:RSq Tryz.f36 [.cell 6 37,.cell 7 3,.cell 8 31]∧THq 36:=kq
def zWU:KPq 37 3 [0,3,4]∧RSq Tryz.f37 [.tmp 2]∧THq 37:=kq
def yHN:KPq 38 9 [1,23,24]∧RSq Tryz.f38 [.tmp 2,.tmp 3]∧THq 38:=kq
def yHE:KPq 39 4 [0,2,4,6,8,9,20,21,22]∧KPq 39 8 [0,2,4,6,8,9,10,11,12,20,21,22,28,29,30]∧RSq Tryz.f39 [.cell 6 23,.tmp 7]∧THq 39:=kq
def yJl:RSq Tryz.f40 [.tmp 4]∧THq 40:=kq
def zWW:RSq Tryz.f41 [.cell 8 67]∧THq 41:=kq
def yHm:KPq 42 3 [2,3,7,8,9]∧RSq Tryz.f42 [.cell 2 23]∧THq 42:=kq
def zW3:RSq Tryz.f43 [.cell 2 67]∧THq 43:=kq
def yHV:KPq 44 3 [2,3,6,7,8]∧RSq Tryz.f44 [.cell 2 23]∧THq 44:=kq
def yHX:KPq 53 2 [0,1,7,8]∧RSq Tryz.f53 [.tmp 4]∧THq 53:=kq
def zWL:KPq 54 3 [0,1]∧RSq Tryz.f54 [.tmp 4]∧THq 54:=kq
def yJd:RSq Tryz.f55 [.tmp 2]∧THq 55:=kq
def yIC:KPq 56 1 [0,1]∧KPq 56 6 [0,1]∧RSq Tryz.f56 [.tmp 4]∧THq 56:=kq
def zQ2:RSq Tryz.f57 [.cell 2 23,.tmp 3]∧THq 57:=kq
def yII:KPq 58 2 [0,5]∧RSq Tryz.f58 [.tmp 4]∧THq 58:=kq
def zWZ:RSq Tryz.f59 [.tmp 4]∧THq 59:=kq
def zNz:RSq Tryz.f60 [.tmp 2]∧THq 60:=kq
def zWK:RSq Tryz.f61 [.cell 2 30]∧THq 61:=kq
def zW8:RSq Tryz.f62 [.tmp 2]∧THq 62:=kq
def yIj:RSq Tryz.f63 []∧THq 63:=kq
def yH1:RSq Tryz.f64 [.tmp 4]∧THq 64:=kq
def yHG:KPq 65 4 [0,1,5,6,7]∧RSq Tryz.f65 [.tmp 4]∧THq 65:=kq
def yHf:KPq 66 2 [0,1,3,4]∧RSq Tryz.f66 []∧THq 66:=kq
def zXb:KPq 67 2 [0,1,2,7]∧RSq Tryz.f67 [.tmp 6]∧THq 67:=kq
def yHF:RSq Tryz.f68 [.tmp 2]∧THq 68:=kq
def yIX:RSq Tryz.f69 [.tmp 2,.tmp 3]∧THq 69:=kq
def yHJ:RSq Tryz.f70 [.tmp 2]∧THq 70:=kq
def yIG:RSq Tryz.f71 [.tmp 2]∧THq 71:=kq
def yIq:RSq Tryz.f72 [.tmp 2]∧THq 72:=kq
def yJa:RSq Tryz.f73 [.cell 2 61,.tmp 3,.tmp 4]∧THq 73:=kq
def yHU:RSq Tryz.f74 [.cell 2 61,.tmp 3,.tmp 4]∧THq 74:=kq
def yIZ:KPq 75 2 [0,2,7,8]∧RSq Tryz.f75 [.cell 2 61,.tmp 3,.tmp 4]∧THq 75:=kq
def zWJ:RSq Tryz.f76 []∧THq 76:=kq
def zW6:RSq Tryz.f77 [.cell 2 30]∧THq 77:=kq
def zC8:KPq 78 22 [0,3,106,107]∧RSq Tryz.f78 [.tmp 2]∧THq 78:=kq
def zXh:RSq Tryz.f79 [.tmp 6]∧THq 79:=kq
def zXk:RSq Tryz.f80 [.tmp 4]∧THq 80:=kq
def yIK:RSq Tryz.f81 [.tmp 4]∧THq 81:=kq
def yG8:KPq 82 8 [3,6,23,24,25]∧RSq Tryz.f82 [.cell 6 139,.tmp 7]∧THq 82:=kq
def yHD:RSq Tryz.f83 [.cell 4 139,.tmp 5]∧THq 83:=kq
def yID:RSq Tryz.f84 [.cell 4 139]∧THq 84:=kq
def zIK:RSq Tryz.f85 [.tmp 2]∧(CC.thaw 85=true):=kq
def zXm:RSq Tryz.f86 [.cell 2 67]∧THq 86:=kq
def zRK:RSq Tryz.f87 [.cell 2 23]∧THq 87:=kq
def zWB:RSq Tryz.f88 [.cell 2 23]∧THq 88:=kq
def yHh:RSq Tryz.f94 [.tmp 2]∧THq 94:=kq
def yI8:KPq 95 6 [0,2,5,6,7,8,9]∧KPq 95 19 [0,2,5,7,8,9,10,11]∧RSq Tryz.f95 [.cell 2 161,.tmp 3,.tmp 4]∧THq 95:=kq
def yHR:RSq Tryz.f96 [.cell 2 23]∧THq 96:=kq
def yI2:KPq 97 3 [0,3,4]∧RSq Tryz.f97 [.tmp 2]∧THq 97:=kq
def zRT:KPq 98 6 [1,6,7]∧RSq Tryz.f98 [.tmp 2,.tmp 3]∧THq 98:=kq
def yHo:KPq 99 9 [1,3]∧RSq Tryz.f99 [.tmp 2]∧THq 99:=kq
def yGh:KPq 100 15 [4,5,6]∧KPq 100 26 [1,7,8]∧RSq Tryz.f100 [.tmp 2]∧THq 100:=kq
def yAN:RSq Tryz.f101 []∧THq 101:=kq
def yFI:RSq Tryz.f102 [.tmp 2,.tmp 3,.tmp 4]∧THq 102:=kq
def yF2:KPq 103 6 [0,2,3,9]∧RSq Tryz.f103 [.tmp 8]∧THq 103:=kq
def yBw:RSq Tryz.f104 []∧THq 104:=kq
def zDZ:RSq Tryz.f105 [.cell 2 23,.tmp 3]∧THq 105:=kq
def yDp:RSq Tryz.f106 [.tmp 3]∧THq 106:=kq
def zSN:RSq Tryz.f107 [.tmp 4]∧THq 107:=kq
def yGu:RSq Tryz.f109 [.tmp 2]∧THq 109:=kq
def yEI:RSq Tryz.f110 []∧THq 110:=kq
def zSK:RSq Tryz.f111 [.tmp 4]∧THq 111:=kq
def zTg:RSq Tryz.f112 [.tmp 2]∧THq 112:=kq
def zSE:RSq Tryz.f113 [.tmp 2]∧THq 113:=kq
def yA6:RSq Tryz.f114 [.cell 2 139]∧THq 114:=kq
def zSL:RSq Tryz.f115 [.cell 2 139]∧THq 115:=kq
def yBi:RSq Tryz.f116 [.cell 6 139]∧THq 116:=kq
def yFl:RSq Tryz.f117 [.cell 4 139]∧THq 117:=kq
def yBC:RSq Tryz.f118 [.cell 4 139]∧THq 118:=kq
def yGJ:RSq Tryz.f119 [.cell 4 139]∧THq 119:=kq
def yC7:RSq Tryz.f120 [.tmp 2]∧THq 120:=kq
def yDa:RSq Tryz.f121 [.tmp 2]∧THq 121:=kq
def yAP:RSq Tryz.f122 [.tmp 2]∧THq 122:=kq
def yFX:RSq Tryz.f123 [.tmp 2]∧THq 123:=kq
def yDT:RSq Tryz.f124 [.cell 8 139]∧THq 124:=kq
def yEt:RSq Tryz.f125 [.cell 2 139]∧THq 125:=kq
def yFn:RSq Tryz.f127 [.cell 2 139]∧THq 127:=kq
def yBq:RSq Tryz.f128 [.cell 4 139]∧THq 128:=kq
def yEY:RSq Tryz.f129 [.cell 4 23,.tmp 5]∧THq 129:=kq
def yBW:RSq Tryz.f130 [.cell 4 23,.tmp 5]∧THq 130:=kq
def yBV:RSq Tryz.f131 [.cell 4 23,.tmp 5]∧THq 131:=kq
def yBL:RSq Tryz.f132 [.cell 4 23,.tmp 5]∧THq 132:=kq
def zJ5:KPq 133 3 [2,3,6,7,10,11]∧RSq Tryz.f133 [.cell 6 139]∧THq 133:=kq
def yFa:RSq Tryz.f134 [.cell 2 139]∧THq 134:=kq
def yBj:RSq Tryz.f135 [.cell 4 139]∧THq 135:=kq
def yFy:RSq Tryz.f136 [.cell 2 23,.tmp 3]∧THq 136:=kq
def yEJ:RSq Tryz.f137 [.cell 2 139]∧THq 137:=kq
def yCB:RSq Tryz.f138 [.cell 2 23,.tmp 3]∧THq 138:=kq
def yA3:RSq Tryz.f139 [.cell 2 139]∧THq 139:=kq
def yC6:RSq Tryz.f140 [.cell 2 23,.tmp 3]∧THq 140:=kq
def yD7:RSq Tryz.f141 [.cell 2 139]∧THq 141:=kq
def yAZ:RSq Tryz.f142 [.cell 2 139]∧THq 142:=kq
def yGS:RSq Tryz.f143 [.cell 2 139]∧THq 143:=kq
def yBb:RSq Tryz.f144 [.cell 2 23]∧THq 144:=kq
def yC8:KPq 145 3 [2,3,11,12,13]∧RSq Tryz.f145 [.cell 2 139]∧THq 145:=kq
def yFQ:RSq Tryz.f146 [.cell 2 139]∧THq 146:=kq
def yFK:RSq Tryz.f148 [.cell 4 28,.cell 5 3,.cell 6 31]∧THq 148:=kq
def zNH:RSq Tryz.f151 [.cell 4 161]∧THq 151:=kq
def yCW:KPq 152 3 [2,3,4,5,6]∧KPq 152 8 [2,3,4,5,6,7,8,9]∧RSq Tryz.f152 [.cell 4 161]∧THq 152:=kq
def yEz:KPq 153 3 [0,2,3,4]∧RSq Tryz.f153 [.cell 2 161]∧THq 153:=kq
def yF7:RSq Tryz.f154 [.cell 2 161]∧THq 154:=kq
def zOc:RSq Tryz.f155 [.tmp 4]∧THq 155:=kq
def zOG:KPq 156 4 [0,3]∧RSq Tryz.f156 [.tmp 2]∧THq 156:=kq
def yBA:KPq 157 3 [1,5,6]∧RSq Tryz.f157 [.tmp 4]∧THq 157:=kq
def zDa:RSq Tryz.f159 [.cell 2 23,.tmp 3]∧THq 159:=kq
def yGA:RSq Tryz.f160 [.tmp 2]∧THq 160:=kq
def zSO:RSq Tryz.f161 [.tmp 4]∧THq 161:=kq
def yGw:RSq Tryz.f163 [.tmp 2]∧THq 163:=kq
def yGo:RSq Tryz.f164 [.cell 4 139]∧THq 164:=kq
def yFj:RSq Tryz.f165 [.cell 4 139]∧THq 165:=kq
def yCJ:RSq Tryz.f166 [.tmp 4,.tmp 5]∧THq 166:=kq
def yD1:RSq Tryz.f167 [.tmp 3]∧THq 167:=kq
def yDA:KPq 168 2 [5,6,7]∧RSq Tryz.f168 [.tmp 2]∧THq 168:=kq
def yA1:RSq Tryz.f169 [.cell 3 139]∧THq 169:=kq
def yEm:KPq 170 2 [0,1,9,10,11]∧RSq Tryz.f170 [.tmp 6]∧THq 170:=kq
def yBD:RSq Tryz.f171 [.cell 4 139]∧THq 171:=kq
def yE9:RSq Tryz.f173 [.cell 3 139]∧THq 173:=kq
def yEp:RSq Tryz.f174 [.cell 8 23,.tmp 9]∧THq 174:=kq
def yAQ:RSq Tryz.f175 [.tmp 4,.tmp 5]∧THq 175:=kq
def yEO:RSq Tryz.f176 [.tmp 4,.tmp 5]∧THq 176:=kq
def yCG:RSq Tryz.f177 [.tmp 4,.tmp 5]∧THq 177:=kq
def yDV:RSq Tryz.f178 [.tmp 4,.tmp 5]∧THq 178:=kq
def yAR:RSq Tryz.f179 [.tmp 4,.tmp 5]∧THq 179:=kq
def yDq:RSq Tryz.f180 [.tmp 4,.tmp 5]∧THq 180:=kq
def yFZ:KPq 181 6 [0,4,9,33,34,35]∧RSq Tryz.f181 [.cell 4 23,.tmp 5]∧THq 181:=kq
def yB0:RSq Tryz.f182 [.tmp 4,.tmp 5]∧THq 182:=kq
def zTn:RSq Tryz.f185 []∧THq 185:=kq
def yA4:RSq Tryz.f186 [.tmp 4]∧THq 186:=kq
def yEn:KPq 189 1 [0,1,4]∧RSq Tryz.f189 [.cell 4 161]∧THq 189:=kq
def yEL:KPq 190 4 [0,1,5,6,7]∧RSq Tryz.f190 [.tmp 4]∧THq 190:=kq
def zTm:KPq 191 4 [0,1,5]∧RSq Tryz.f191 [.tmp 4]∧THq 191:=kq
def yEU:KPq 192 4 [0,1,5,6,7]∧RSq Tryz.f192 [.tmp 4]∧THq 192:=kq
def yDc:RSq Tryz.f193 [.cell 4 161]∧THq 193:=kq
def yB2:KPq 194 5 [2,3,4,5,6,7,8,9,10]∧KPq 194 9 [2,3,4,5,6,7,8,9,10,11,12]∧RSq Tryz.f194 [.cell 4 161,.cell 5 161]∧THq 194:=kq
def yCO:RSq Tryz.f195 [.cell 2 23,.tmp 3]∧THq 195:=kq
def yDg:RSq Tryz.f197 [.cell 2 23,.tmp 3]∧THq 197:=kq
def yCF:RSq Tryz.f199 [.tmp 4]∧THq 199:=kq
def zSU:RSq Tryz.f200 [.tmp 2]∧THq 200:=kq
def yCh:KPq 203 5 [3,4]∧RSq Tryz.f203 [.tmp 2]∧THq 203:=kq
def yFB:RSq Tryz.f204 [.tmp 2]∧THq 204:=kq
def yBU:RSq Tryz.f205 [.tmp 2]∧THq 205:=kq
def yFs:RSq Tryz.f207 [.tmp 2]∧THq 207:=kq
def yFN:RSq Tryz.f208 [.tmp 2]∧THq 208:=kq
def yBM:RSq Tryz.f209 [.tmp 2]∧THq 209:=kq
def yGg:RSq Tryz.f210 [.tmp 2,.tmp 3,.tmp 4]∧THq 210:=kq
def yDw:KPq 211 3 [3,6,7,8]∧RSq Tryz.f211 [.tmp 2]∧THq 211:=kq
def yGb:RSq Tryz.f212 [.tmp 4]∧THq 212:=kq
def yCj:RSq Tryz.f213 [.tmp 4]∧THq 213:=kq
def yDF:KPq 215 3 [0,2,3,5,10,11,12]∧KPq 215 13 [2,5,36,37,38]∧RSq Tryz.f215 [.tmp 2,.tmp 3,.tmp 4]∧THq 215:=kq
def yGN:RSq Tryz.f216 [.cell 5 23,.tmp 6]∧THq 216:=kq
def yC5:RSq Tryz.f217 [.tmp 4,.tmp 5]∧THq 217:=kq
def yGq:RSq Tryz.f218 [.tmp 2]∧THq 218:=kq
def yFp:RSq Tryz.f219 [.tmp 6,.tmp 7]∧THq 219:=kq
def yCg:RSq Tryz.f220 [.tmp 6,.tmp 7]∧THq 220:=kq
def yFv:RSq Tryz.f221 [.tmp 4]∧THq 221:=kq
def yB1:RSq Tryz.f223 [.tmp 2]∧THq 223:=kq
def yDO:RSq Tryz.f224 [.tmp 2]∧THq 224:=kq
def yDm:RSq Tryz.f225 [.tmp 2]∧THq 225:=kq
def yCZ:RSq Tryz.f226 [.tmp 2]∧THq 226:=kq
def yDu:RSq Tryz.f227 [.tmp 2]∧THq 227:=kq
def yED:RSq Tryz.f228 [.tmp 2]∧THq 228:=kq
def yDt:RSq Tryz.f229 [.tmp 2]∧THq 229:=kq
def zA3:RSq Tryz.f230 [.tmp 2]∧THq 230:=kq
def zSM:RSq Tryz.f233 [.tmp 4]∧THq 233:=kq
def zN3:RSq Tryz.f234 [.tmp 4]∧THq 234:=kq
def yCw:RSq Tryz.f235 [.tmp 2]∧THq 235:=kq
def yGQ:RSq Tryz.f241 [.tmp 2]∧THq 241:=kq
def yFx:RSq Tryz.f242 [.tmp 2]∧THq 242:=kq
def yD9:RSq Tryz.f243 [.tmp 2]∧THq 243:=kq
def yDG:RSq Tryz.f244 [.tmp 2]∧THq 244:=kq
def yDo:RSq Tryz.f245 [.tmp 4]∧THq 245:=kq
def yCz:RSq Tryz.f246 [.tmp 4]∧THq 246:=kq
def yBY:RSq Tryz.f250 [.cell 2 23,.tmp 3]∧THq 250:=kq
def yCs:RSq Tryz.f251 [.tmp 7,.tmp 8]∧THq 251:=kq
def yBr:KPq 252 17 [2,8,9,10,11,13,14,15,16]∧KPq 252 24 [2,8,9,10,14,15,16,17,18]∧RSq Tryz.f252 [.tmp 6,.tmp 7]∧THq 252:=kq
def yFW:RSq Tryz.f253 [.tmp 2]∧THq 253:=kq
def zSw:KPq 254 2 [0,1,2,3,9]∧RSq Tryz.f254 [.tmp 8]∧THq 254:=kq
def zLo:RSq Tryz.f255 [.tmp 8]∧THq 255:=kq
def yD2:RSq Tryz.f256 [.cell 2 23,.tmp 3]∧THq 256:=kq
def yGC:RSq Tryz.f257 [.cell 2 281,.tmp 3]∧THq 257:=kq
def zOj:KPq 258 6 [0,4,5,7]∧RSq Tryz.f258 [.tmp 6]∧THq 258:=kq
def zKt:RSq Tryz.f259 [.tmp 4]∧THq 259:=kq
def zLg:RSq Tryz.f260 []∧THq 260:=kq
def zKz:RSq Tryz.f261 []∧THq 261:=kq
def zUJ:RSq Tryz.f262 [.tmp 6]∧THq 262:=kq
def zOn:RSq Tryz.f263 [.tmp 4]∧THq 263:=kq
def yFT:RSq Tryz.f278 [.tmp 2]∧THq 278:=kq
def yGP:RSq Tryz.f279 [.tmp 2]∧THq 279:=kq
def yBJ:RSq Tryz.f281 [.tmp 2,.tmp 3]∧THq 281:=kq
def yFH:RSq Tryz.f282 [.tmp 2]∧THq 282:=kq
def zKe:RSq Tryz.f283 [.cell 2 30]∧THq 283:=kq
def zUE:KPq 284 2 [0,7,8,9]∧RSq Tryz.f284 [.tmp 4]∧THq 284:=kq
def yC1:KPq 285 2 [1,2,10]∧RSq Tryz.f285 [.tmp 6]∧THq 285:=kq
def yEV:RSq Tryz.f292 [.tmp 2]∧THq 292:=kq
end Go.Ab
