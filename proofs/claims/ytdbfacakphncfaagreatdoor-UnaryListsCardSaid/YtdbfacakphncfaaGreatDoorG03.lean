/- Lemmas. -/
import Derived.Test.YtdbfacakphncfaaGreatDoorG02
import Derived.Test.YtdbfacakphncfaaGreatDoorProg
set_option maxRecDepth 1000000
set_option maxHeartbeats 4000000
set_option linter.unusedSimpArgs false
set_option linter.unusedVariables false
namespace Go.Ab
open Go.Proofs
def zE:Nat→Nat→Option (List Nat)
 |3,9=>some [0,1,3,6,69,70]
 |3,12=>some [0,1,3,6,16,69,70,75,76]
 |5,4=>some [0,1,3,6,50,51]
 |6,7=>some [2,5,7,9,43,44,45]
 |7,2=>some [1,2,7,8]
 |8,3=>some [1,2,35,36,37]
 |12,4=>some [2,4,6,8,9,13,14,15]
 |13,6=>some [0,4,5,17,18]
 |16,4=>some [2,10,11,12]
 |16,7=>some [2,10,11,12,22,23,24]
 |17,7=>some [0,3,5,6,7,8,9]
 |17,16=>some [0,3,5,6,7,8,9]
 |20,6=>some [1,2,3,4]
 |20,999999999=>some [20]
 |24,3=>some [1,3,4,6,8,9,22,23,24]
 |24,9=>some [3,4,6,8,9]
 |24,14=>some [3,4,6,8,9,12,13,14,61,62]
 |24,30=>some [8,18,127,128,129]
 |25,6=>some [1,2,7,8,10,12,37,38,39]
 |25,25=>some [7,8,92,93]
 |26,4=>some [1,2,15,16,17]
 |28,4=>some [0,1,12,13]
 |30,4=>some [2,8,9,10]
 |33,18=>some [0,1,8]
 |37,3=>some [0,3,4]
 |38,9=>some [1,23,24]
 |39,4=>some [0,2,4,6,8,9,20,21,22]
 |39,8=>some [0,2,4,6,8,9,10,11,12,20,21,22,28,29,30]
 |42,3=>some [2,3,7,8,9]
 |44,3=>some [2,3,6,7,8]
 |46,12=>some [0,1,5,39,40,41]
 |46,22=>some [1,8,63,64,65]
 |50,4=>some [1,2,15,16,17]
 |53,2=>some [0,1,7,8]
 |54,3=>some [0,1]
 |56,1=>some [0,1]
 |56,6=>some [0,1]
 |58,2=>some [0,5]
 |65,4=>some [0,1,5,6,7]
 |66,2=>some [0,1,3,4]
 |67,2=>some [0,1,2,7]
 |75,2=>some [0,2,7,8]
 |78,22=>some [0,3,106,107]
 |82,8=>some [3,6,23,24,25]
 |89,4=>some [3,4,13,14]
 |95,6=>some [0,2,5,6,7,8,9]
 |95,19=>some [0,2,5,7,8,9,10,11]
 |97,3=>some [0,3,4]
 |98,6=>some [1,6,7]
 |99,9=>some [1,3]
 |100,15=>some [4,5,6]
 |100,26=>some [1,7,8]
 |103,6=>some [0,2,3,9]
 |133,3=>some [2,3,6,7,10,11]
 |145,3=>some [2,3,11,12,13]
 |147,13=>some [0,1,6,8,62,63]
 |152,3=>some [2,3,4,5,6]
 |152,8=>some [2,3,4,5,6,7,8,9]
 |153,3=>some [0,2,3,4]
 |156,4=>some [0,3]
 |157,3=>some [1,5,6]
 |168,2=>some [5,6,7]
 |170,2=>some [0,1,9,10,11]
 |181,6=>some [0,4,9,33,34,35]
 |189,1=>some [0,1,4]
 |190,4=>some [0,1,5,6,7]
 |191,4=>some [0,1,5]
 |192,4=>some [0,1,5,6,7]
 |194,5=>some [2,3,4,5,6,7,8,9,10]
 |194,9=>some [2,3,4,5,6,7,8,9,10,11,12]
 |196,3=>some [0,2,4,5]
 |203,5=>some [3,4]
 |211,3=>some [3,6,7,8]
 |214,15=>some [0,1,5,6,7,8,9,10]
 |215,3=>some [0,2,3,5,10,11,12]
 |215,13=>some [2,5,36,37,38]
 |249,5=>some [0,1,5,6,7,8,9]
 |249,11=>some [0,1,5,6,7,8,10]
 |252,17=>some [2,8,9,10,11,13,14,15,16]
 |252,24=>some [2,8,9,10,14,15,16,17,18]
 |254,2=>some [0,1,2,3,9]
 |258,6=>some [0,4,5,7]
 |264,36=>some [1,8,9,10,11,12,13,99,100,101]
 |271,1=>some [0,1,4]
 |272,11=>some [0,1,3,4,10,11,12,13,14,15,16]
 |272,18=>some [0,1,3,4,10,11,12,13,17]
 |273,1=>some [0,1]
 |274,2=>some [0,2,4]
 |275,1=>some [0,1]
 |276,1=>some [0,1]
 |277,13=>some [0,1,2,10,11,52,53]
 |277,21=>some [0,2,10,11,77,78]
 |280,3=>some [0,4,5]
 |280,8=>some [4,6,7,8]
 |284,2=>some [0,7,8,9]
 |285,2=>some [1,2,10]
 |287,10=>some [0,3,4,5]
 |297,10=>some [0,4,5,6]
 |299,6=>some [0,1,5]
 |305,38=>some [175]
 |305,5=>some [0,7,8,9]
 |305,12=>some [0,7,8,9,12]
 |305,25=>some [0,7,8,9,14,15]
 |305,29=>some [0,7,8,9,14,15,16]
 |306,2=>some [2,4]
 |_,_=>none
def prims(f:FuncId)(x:List AV):Option AV :=
 bif Nat.beq f 108 then zDN x else
 bif Nat.beq f 46 then zIN x else
 bif Nat.beq f 126 then zCv x else
 bif Nat.beq f 198 then zHI x else
 bif Nat.beq f 240 then zBj x else
 bif Nat.beq f 239 then zBN x else
 bif Nat.beq f 202 then zBK x else
 bif Nat.beq f 201 then zCK x else
 bif Nat.beq f 196 then zFS x else
 none
noncomputable def CC:Cfg:={ P:=Tryz.prog,byRef:=fun _=>false,thaw:=fun f=>Nat.beq f 85,keep:=zE,prim:=prims }
theorem uZ:CC.P=Tryz.prog:=rfl
theorem vR(f:FuncId):CC.byRef f=false:=rfl
theorem zCM{a b:Nat}(h:a≠b):Nat.beq a b=false:=by cases hb:Nat.beq a b with|true=>exact absurd (Nat.eq_of_beq_eq_true hb) h|false=>rfl
theorem zZ(f:FuncId)(x:List AV)(h:f≠108∧f≠46∧f≠126∧f≠198∧f≠240∧f≠239∧f≠202∧f≠201∧f≠196):CC.prim f x=none:=by
 obtain⟨h0,h1,h2,h3,h4,h5,h6,h7,h8⟩:=h
 show prims f x=none
 unfold prims;rw[zCM h0,zCM h1,zCM h2,zCM h3,zCM h4,zCM h5,zCM h6,zCM h7,zCM h8];rfl
theorem zVx(x:List AV):CC.prim 126 x=zCv x:=rfl
theorem zWF(x:List AV):CC.prim 198 x=zHI x:=rfl
theorem zV9(x:List AV):CC.prim 240 x=zBj x:=rfl
theorem zVJ(x:List AV):CC.prim 239 x=zBN x:=rfl
theorem zVq(x:List AV):CC.prim 202 x=zBK x:=rfl
theorem zVa(x:List AV):CC.prim 201 x=zCK x:=rfl
theorem zWb(x:List AV):CC.prim 196 x=zFS x:=rfl
theorem zUh:und Tryz.prog 2=some (.int .i64):=by kernel_rfl
theorem zUy:agg? Tryz.prog 2=some false:=by kernel_rfl
theorem zUK:und Tryz.prog 5=some (.int .u8):=by kernel_rfl
theorem zUx:agg? Tryz.prog 5=some false:=by kernel_rfl
theorem zE4:und Tryz.prog 9=some .string:=by kernel_rfl
theorem zUE:agg? Tryz.prog 9=some false:=by kernel_rfl
theorem zZp(d:Nat)(xs ys:List Tree):equal Tryz.prog (d+1) 23 (.agg xs) (.agg ys)=zJD Tryz.prog (equal Tryz.prog d) 5 0 xs ys (zJD Tryz.prog (equal Tryz.prog d) 2 1 xs ys (zJD Tryz.prog (equal Tryz.prog d) 9 2 xs ys (some true))):=by kernel_rfl
theorem zYz:zB4 Tryz.prog 50 23=false:=by kernel_rfl
theorem zTj(n:Nat):small Tryz.prog 23 n=(true&&decide (n<4294967296)&&true):=by kernel_rfl
theorem zZP:zAX Tryz.prog 23=some (.t (.agg [.int .u8 (0),.int .i64 (0),.str []])):=by kernel_rfl
theorem zOv(u:Nat)(v:Tree):zB1 Tryz.prog (.t (.ifc u v)) 227 true=match Nat.beq u 227 with|true=>some (.val (.tup [.t v,.t (.bool true)]),[])|false=>some (.val (.tup [.t (.int .i64 (0)),.t (.bool false)]),[]):=by cases h:Nat.beq u 227<;>simp only[zB1,h]<;>kernel_rfl
theorem zXm:zAX Tryz.prog 281=some (.t (.agg [.int .u8 (0),.int .i64 (0),.int .i64 (0)])):=by kernel_rfl
abbrev NF (n:Nat) (f:Func):Prop:=nth Tryz.prog.funcs.toList n=some f
theorem fnx{n:Nat}{f:Func}(h:Tryz.prog.funcs[n]?=some f):NF n f:=by show nth _ _=_;rw[xB];simpa using h
theorem yDJ:NF 4 Tryz.f4:=fnx Tryz.func4
theorem yDh:NF 7 Tryz.f7:=fnx Tryz.func7
theorem zEq:zF Tryz.prog 7=true:=by kernel_rfl
theorem zEn:zF Tryz.prog 8=true:=by kernel_rfl
theorem zQY:NF 10 Tryz.f10:=fnx Tryz.func10
theorem zCx:zF Tryz.prog 10=true:=by kernel_rfl
theorem zYC:NF 11 Tryz.f11:=fnx Tryz.func11
theorem zCJ:zF Tryz.prog 11=true:=by kernel_rfl
theorem zY8:NF 12 Tryz.f12:=fnx Tryz.func12
theorem zBL:zF Tryz.prog 12=true:=by kernel_rfl
theorem yBd:NF 20 Tryz.f20:=fnx Tryz.func20
theorem zKg:zF Tryz.prog 20=true:=by kernel_rfl
theorem yAK:NF 21 Tryz.f21:=fnx Tryz.func21
theorem zJa:zF Tryz.prog 21=true:=by kernel_rfl
theorem zZ1:NF 22 Tryz.f22:=fnx Tryz.func22
theorem zJM:zF Tryz.prog 22=true:=by kernel_rfl
theorem yCz:NF 23 Tryz.f23:=fnx Tryz.func23
theorem yDz:zF Tryz.prog 23=true:=by kernel_rfl
theorem yCk:NF 24 Tryz.f24:=fnx Tryz.func24
theorem yDU:zF Tryz.prog 24=true:=by kernel_rfl
theorem yCV:NF 31 Tryz.f31:=fnx Tryz.func31
theorem zUC:zF Tryz.prog 31=true:=by kernel_rfl
theorem zYq:NF 34 Tryz.f34:=fnx Tryz.func34
theorem yDk:zF Tryz.prog 34=true:=by kernel_rfl
theorem zZa:NF 35 Tryz.f35:=fnx Tryz.func35
theorem zUn:zF Tryz.prog 35=true:=by kernel_rfl
theorem yBL:NF 36 Tryz.f36:=fnx Tryz.func36
theorem yDC:zF Tryz.prog 36=true:=by kernel_rfl
theorem zRY:NF 37 Tryz.f37:=fnx Tryz.func37
theorem zDf:zF Tryz.prog 37=true:=by kernel_rfl
theorem yB7:NF 38 Tryz.f38:=fnx Tryz.func38
theorem yDT:zF Tryz.prog 38=true:=by kernel_rfl
theorem yBC:NF 39 Tryz.f39:=fnx Tryz.func39
theorem yD0:zF Tryz.prog 39=true:=by kernel_rfl
theorem zYR:NF 40 Tryz.f40:=fnx Tryz.func40
theorem yDV:zF Tryz.prog 40=true:=by kernel_rfl
theorem zRl:NF 41 Tryz.f41:=fnx Tryz.func41
theorem yD8:zF Tryz.prog 41=true:=by kernel_rfl
theorem yA9:NF 42 Tryz.f42:=fnx Tryz.func42
theorem zH6:zF Tryz.prog 42=true:=by kernel_rfl
theorem zSg:NF 43 Tryz.f43:=fnx Tryz.func43
theorem yD1:zF Tryz.prog 43=true:=by kernel_rfl
theorem zYc:NF 44 Tryz.f44:=fnx Tryz.func44
theorem zJP:zF Tryz.prog 44=true:=by kernel_rfl
theorem zUt:zF Tryz.prog 49=true:=by kernel_rfl
theorem yC8:NF 53 Tryz.f53:=fnx Tryz.func53
theorem yEm:zF Tryz.prog 53=true:=by kernel_rfl
theorem zYa:NF 66 Tryz.f66:=fnx Tryz.func66
theorem yD9:zF Tryz.prog 66=true:=by kernel_rfl
theorem zQf:NF 67 Tryz.f67:=fnx Tryz.func67
theorem zJ0:zF Tryz.prog 67=true:=by kernel_rfl
theorem yC2:NF 68 Tryz.f68:=fnx Tryz.func68
theorem zUo:zF Tryz.prog 68=true:=by kernel_rfl
theorem yBG:NF 69 Tryz.f69:=fnx Tryz.func69
theorem yDI:zF Tryz.prog 69=true:=by kernel_rfl
theorem zYS:NF 70 Tryz.f70:=fnx Tryz.func70
theorem zPB:zF Tryz.prog 70=true:=by kernel_rfl
theorem yBY:NF 71 Tryz.f71:=fnx Tryz.func71
theorem zUi:zF Tryz.prog 71=true:=by kernel_rfl
theorem yBK:NF 72 Tryz.f72:=fnx Tryz.func72
theorem zJB:zF Tryz.prog 72=true:=by kernel_rfl
theorem zX9:NF 73 Tryz.f73:=fnx Tryz.func73
theorem yDt:zF Tryz.prog 73=true:=by kernel_rfl
theorem yBN:NF 74 Tryz.f74:=fnx Tryz.func74
theorem yEh:zF Tryz.prog 74=true:=by kernel_rfl
theorem zX4:NF 75 Tryz.f75:=fnx Tryz.func75
theorem yDw:zF Tryz.prog 75=true:=by kernel_rfl
theorem zQV:NF 76 Tryz.f76:=fnx Tryz.func76
theorem zSb:NF 77 Tryz.f77:=fnx Tryz.func77
theorem zBJ:zF Tryz.prog 77=true:=by kernel_rfl
theorem zBB:NF 78 Tryz.f78:=fnx Tryz.func78
theorem zUu:zF Tryz.prog 78=true:=by kernel_rfl
theorem zRp:NF 79 Tryz.f79:=fnx Tryz.func79
theorem zAe:zF Tryz.prog 79=true:=by kernel_rfl
theorem zQD:NF 80 Tryz.f80:=fnx Tryz.func80
theorem zUk:zF Tryz.prog 80=true:=by kernel_rfl
theorem zSJ:NF 81 Tryz.f81:=fnx Tryz.func81
theorem zCg:zF Tryz.prog 81=true:=by kernel_rfl
theorem yAU:NF 82 Tryz.f82:=fnx Tryz.func82
theorem yDs:zF Tryz.prog 82=true:=by kernel_rfl
theorem yBs:NF 83 Tryz.f83:=fnx Tryz.func83
theorem yDr:zF Tryz.prog 83=true:=by kernel_rfl
theorem zZT:NF 84 Tryz.f84:=fnx Tryz.func84
theorem yDp:zF Tryz.prog 84=true:=by kernel_rfl
theorem zQd:NF 85 Tryz.f85:=fnx Tryz.func85
theorem yDF:zF Tryz.prog 85=true:=by kernel_rfl
theorem zRB:NF 86 Tryz.f86:=fnx Tryz.func86
theorem zMh:zF Tryz.prog 86=true:=by kernel_rfl
theorem zNm:NF 87 Tryz.f87:=fnx Tryz.func87
theorem zDk:zF Tryz.prog 87=true:=by kernel_rfl
theorem zSs:NF 88 Tryz.f88:=fnx Tryz.func88
theorem zMg:zF Tryz.prog 88=true:=by kernel_rfl
theorem zV4:NF 105 Tryz.f105:=fnx Tryz.func105
theorem zQN:zF Tryz.prog 105=true:=by kernel_rfl
theorem zWM:NF 106 Tryz.f106:=fnx Tryz.func106
theorem zZO:zF Tryz.prog 106=true:=by kernel_rfl
theorem zOT:NF 107 Tryz.f107:=fnx Tryz.func107
theorem zA2:zF Tryz.prog 107=true:=by kernel_rfl
theorem zZv:zF Tryz.prog 108=true:=by kernel_rfl
theorem zVe:NF 109 Tryz.f109:=fnx Tryz.func109
theorem zCL:zF Tryz.prog 109=true:=by kernel_rfl
theorem zXB:NF 110 Tryz.f110:=fnx Tryz.func110
theorem zA6:zF Tryz.prog 110=true:=by kernel_rfl
theorem zOJ:NF 111 Tryz.f111:=fnx Tryz.func111
theorem zCC:zF Tryz.prog 111=true:=by kernel_rfl
theorem zOy:NF 112 Tryz.f112:=fnx Tryz.func112
theorem zCj:zF Tryz.prog 112=true:=by kernel_rfl
theorem zOU:NF 113 Tryz.f113:=fnx Tryz.func113
theorem zCi:zF Tryz.prog 113=true:=by kernel_rfl
theorem zWq:NF 114 Tryz.f114:=fnx Tryz.func114
theorem yCI:zF Tryz.prog 114=true:=by kernel_rfl
theorem zOr:NF 115 Tryz.f115:=fnx Tryz.func115
theorem zDD:zF Tryz.prog 115=true:=by kernel_rfl
theorem zXC:NF 116 Tryz.f116:=fnx Tryz.func116
theorem yAO:zF Tryz.prog 116=true:=by kernel_rfl
theorem zWk:NF 117 Tryz.f117:=fnx Tryz.func117
theorem zMI:zF Tryz.prog 117=true:=by kernel_rfl
theorem zXk:NF 118 Tryz.f118:=fnx Tryz.func118
theorem yCT:zF Tryz.prog 118=true:=by kernel_rfl
theorem zXi:NF 119 Tryz.f119:=fnx Tryz.func119
theorem yA1:zF Tryz.prog 119=true:=by kernel_rfl
theorem zU1:NF 120 Tryz.f120:=fnx Tryz.func120
theorem yA3:zF Tryz.prog 120=true:=by kernel_rfl
theorem zWv:NF 121 Tryz.f121:=fnx Tryz.func121
theorem yC1:zF Tryz.prog 121=true:=by kernel_rfl
theorem zWa:NF 122 Tryz.f122:=fnx Tryz.func122
theorem zYm:zF Tryz.prog 122=true:=by kernel_rfl
theorem zW3:NF 123 Tryz.f123:=fnx Tryz.func123
theorem zXQ:zF Tryz.prog 123=true:=by kernel_rfl
theorem zXs:NF 124 Tryz.f124:=fnx Tryz.func124
theorem zQ3:zF Tryz.prog 124=true:=by kernel_rfl
theorem zWg:NF 125 Tryz.f125:=fnx Tryz.func125
theorem zZe:zF Tryz.prog 125=true:=by kernel_rfl
theorem yAr:zF Tryz.prog 126=true:=by kernel_rfl
theorem zVj:NF 127 Tryz.f127:=fnx Tryz.func127
theorem zYd:zF Tryz.prog 127=true:=by kernel_rfl
theorem zV8:NF 128 Tryz.f128:=fnx Tryz.func128
theorem zZB:zF Tryz.prog 128=true:=by kernel_rfl
theorem zVT:NF 129 Tryz.f129:=fnx Tryz.func129
theorem yBk:zF Tryz.prog 129=true:=by kernel_rfl
theorem zVG:NF 130 Tryz.f130:=fnx Tryz.func130
theorem zQT:zF Tryz.prog 130=true:=by kernel_rfl
theorem zVk:NF 131 Tryz.f131:=fnx Tryz.func131
theorem zYD:zF Tryz.prog 131=true:=by kernel_rfl
theorem zXa:NF 132 Tryz.f132:=fnx Tryz.func132
theorem yC3:zF Tryz.prog 132=true:=by kernel_rfl
theorem zH4:NF 133 Tryz.f133:=fnx Tryz.func133
theorem zGQ:zF Tryz.prog 133=true:=by kernel_rfl
theorem zWU:NF 134 Tryz.f134:=fnx Tryz.func134
theorem yBA:zF Tryz.prog 134=true:=by kernel_rfl
theorem zWf:NF 135 Tryz.f135:=fnx Tryz.func135
theorem zFE:zF Tryz.prog 135=true:=by kernel_rfl
theorem zU2:NF 136 Tryz.f136:=fnx Tryz.func136
theorem zRN:zF Tryz.prog 136=true:=by kernel_rfl
theorem zVI:NF 137 Tryz.f137:=fnx Tryz.func137
theorem yBn:zF Tryz.prog 137=true:=by kernel_rfl
theorem zWR:NF 138 Tryz.f138:=fnx Tryz.func138
theorem yC9:zF Tryz.prog 138=true:=by kernel_rfl
theorem zW4:NF 139 Tryz.f139:=fnx Tryz.func139
theorem yA7:zF Tryz.prog 139=true:=by kernel_rfl
theorem zWo:NF 140 Tryz.f140:=fnx Tryz.func140
theorem yAI:zF Tryz.prog 140=true:=by kernel_rfl
theorem zXo:NF 141 Tryz.f141:=fnx Tryz.func141
theorem yBE:zF Tryz.prog 141=true:=by kernel_rfl
theorem zXw:NF 142 Tryz.f142:=fnx Tryz.func142
theorem zXR:zF Tryz.prog 142=true:=by kernel_rfl
theorem zW5:NF 143 Tryz.f143:=fnx Tryz.func143
theorem yBq:zF Tryz.prog 143=true:=by kernel_rfl
theorem zWE:NF 144 Tryz.f144:=fnx Tryz.func144
theorem zQq:zF Tryz.prog 144=true:=by kernel_rfl
theorem zXc:NF 145 Tryz.f145:=fnx Tryz.func145
theorem zYs:zF Tryz.prog 145=true:=by kernel_rfl
theorem zWd:NF 146 Tryz.f146:=fnx Tryz.func146
theorem yBZ:zF Tryz.prog 146=true:=by kernel_rfl
theorem zU6:NF 148 Tryz.f148:=fnx Tryz.func148
theorem zHf:zF Tryz.prog 148=true:=by kernel_rfl
theorem zDK:zF Tryz.prog 158=true:=by kernel_rfl
theorem zU7:NF 159 Tryz.f159:=fnx Tryz.func159
theorem zDr:zF Tryz.prog 159=true:=by kernel_rfl
theorem zVw:NF 160 Tryz.f160:=fnx Tryz.func160
theorem zDJ:zF Tryz.prog 160=true:=by kernel_rfl
theorem zOS:NF 161 Tryz.f161:=fnx Tryz.func161
theorem zJw:zF Tryz.prog 161=true:=by kernel_rfl
theorem zVo:NF 163 Tryz.f163:=fnx Tryz.func163
theorem zRF:zF Tryz.prog 163=true:=by kernel_rfl
theorem zUT:NF 164 Tryz.f164:=fnx Tryz.func164
theorem zFM:zF Tryz.prog 164=true:=by kernel_rfl
theorem zVV:NF 165 Tryz.f165:=fnx Tryz.func165
theorem zZg:zF Tryz.prog 165=true:=by kernel_rfl
theorem zWW:NF 166 Tryz.f166:=fnx Tryz.func166
theorem zQ1:zF Tryz.prog 166=true:=by kernel_rfl
theorem zV0:NF 167 Tryz.f167:=fnx Tryz.func167
theorem zZh:zF Tryz.prog 167=true:=by kernel_rfl
theorem zW0:NF 168 Tryz.f168:=fnx Tryz.func168
theorem zNi:zF Tryz.prog 168=true:=by kernel_rfl
theorem zXd:NF 169 Tryz.f169:=fnx Tryz.func169
theorem zY3:zF Tryz.prog 169=true:=by kernel_rfl
theorem zWK:NF 170 Tryz.f170:=fnx Tryz.func170
theorem zMy:zF Tryz.prog 170=true:=by kernel_rfl
theorem zU0:NF 171 Tryz.f171:=fnx Tryz.func171
theorem yCn:zF Tryz.prog 171=true:=by kernel_rfl
theorem zVW:NF 173 Tryz.f173:=fnx Tryz.func173
theorem zYo:zF Tryz.prog 173=true:=by kernel_rfl
theorem zVi:NF 174 Tryz.f174:=fnx Tryz.func174
theorem zJc:zF Tryz.prog 174=true:=by kernel_rfl
theorem zWC:NF 175 Tryz.f175:=fnx Tryz.func175
theorem zQb:zF Tryz.prog 175=true:=by kernel_rfl
theorem zWi:NF 176 Tryz.f176:=fnx Tryz.func176
theorem zRe:zF Tryz.prog 176=true:=by kernel_rfl
theorem zVh:NF 177 Tryz.f177:=fnx Tryz.func177
theorem zP5:zF Tryz.prog 177=true:=by kernel_rfl
theorem zVu:NF 178 Tryz.f178:=fnx Tryz.func178
theorem yAd:zF Tryz.prog 178=true:=by kernel_rfl
theorem zU5:NF 179 Tryz.f179:=fnx Tryz.func179
theorem yAs:zF Tryz.prog 179=true:=by kernel_rfl
theorem zWS:NF 180 Tryz.f180:=fnx Tryz.func180
theorem zYF:zF Tryz.prog 180=true:=by kernel_rfl
theorem zWQ:NF 181 Tryz.f181:=fnx Tryz.func181
theorem zSu:zF Tryz.prog 181=true:=by kernel_rfl
theorem zW7:NF 182 Tryz.f182:=fnx Tryz.func182
theorem yCb:zF Tryz.prog 182=true:=by kernel_rfl
theorem zOH:NF 185 Tryz.f185:=fnx Tryz.func185
theorem zXv:NF 186 Tryz.f186:=fnx Tryz.func186
theorem kA:zF Tryz.prog 186=true:=by kernel_rfl
theorem zUW:NF 195 Tryz.f195:=fnx Tryz.func195
theorem zDv:zF Tryz.prog 195=true:=by kernel_rfl
theorem zDI:zF Tryz.prog 196=true:=by kernel_rfl
theorem zWu:NF 197 Tryz.f197:=fnx Tryz.func197
theorem zDz:zF Tryz.prog 197=true:=by kernel_rfl
theorem zCy:zF Tryz.prog 198=true:=by kernel_rfl
theorem zXn:NF 199 Tryz.f199:=fnx Tryz.func199
theorem zCm:zF Tryz.prog 199=true:=by kernel_rfl
theorem zVY:NF 200 Tryz.f200:=fnx Tryz.func200
theorem zCA:zF Tryz.prog 200=true:=by kernel_rfl
theorem zCl:zF Tryz.prog 201=true:=by kernel_rfl
theorem zRm:zF Tryz.prog 202=true:=by kernel_rfl
theorem zWy:NF 203 Tryz.f203:=fnx Tryz.func203
theorem yCU:zF Tryz.prog 203=true:=by kernel_rfl
theorem zWm:NF 204 Tryz.f204:=fnx Tryz.func204
theorem yCo:zF Tryz.prog 204=true:=by kernel_rfl
theorem zWt:NF 205 Tryz.f205:=fnx Tryz.func205
theorem yDe:zF Tryz.prog 205=true:=by kernel_rfl
theorem zUX:NF 207 Tryz.f207:=fnx Tryz.func207
theorem zYw:zF Tryz.prog 207=true:=by kernel_rfl
theorem zVb:NF 208 Tryz.f208:=fnx Tryz.func208
theorem yCt:zF Tryz.prog 208=true:=by kernel_rfl
theorem zW6:NF 209 Tryz.f209:=fnx Tryz.func209
theorem zRw:zF Tryz.prog 209=true:=by kernel_rfl
theorem zUY:NF 210 Tryz.f210:=fnx Tryz.func210
theorem zZi:zF Tryz.prog 210=true:=by kernel_rfl
theorem zWx:NF 211 Tryz.f211:=fnx Tryz.func211
theorem zRv:zF Tryz.prog 211=true:=by kernel_rfl
theorem zVK:NF 212 Tryz.f212:=fnx Tryz.func212
theorem zXV:zF Tryz.prog 212=true:=by kernel_rfl
theorem zXf:NF 213 Tryz.f213:=fnx Tryz.func213
theorem zZ4:zF Tryz.prog 213=true:=by kernel_rfl
theorem zVf:NF 215 Tryz.f215:=fnx Tryz.func215
theorem zQo:zF Tryz.prog 215=true:=by kernel_rfl
theorem zU3:NF 216 Tryz.f216:=fnx Tryz.func216
theorem zZY:zF Tryz.prog 216=true:=by kernel_rfl
theorem zXx:NF 217 Tryz.f217:=fnx Tryz.func217
theorem zGT:zF Tryz.prog 217=true:=by kernel_rfl
theorem zXD:NF 218 Tryz.f218:=fnx Tryz.func218
theorem zJ1:zF Tryz.prog 218=true:=by kernel_rfl
theorem zXb:NF 219 Tryz.f219:=fnx Tryz.func219
theorem zJI:zF Tryz.prog 219=true:=by kernel_rfl
theorem zVF:NF 220 Tryz.f220:=fnx Tryz.func220
theorem zSm:zF Tryz.prog 220=true:=by kernel_rfl
theorem zVE:NF 221 Tryz.f221:=fnx Tryz.func221
theorem zQ0:zF Tryz.prog 221=true:=by kernel_rfl
theorem zWj:NF 223 Tryz.f223:=fnx Tryz.func223
theorem zZn:zF Tryz.prog 223=true:=by kernel_rfl
theorem zV3:NF 224 Tryz.f224:=fnx Tryz.func224
theorem zZ3:zF Tryz.prog 224=true:=by kernel_rfl
theorem zWV:NF 225 Tryz.f225:=fnx Tryz.func225
theorem yAW:zF Tryz.prog 225=true:=by kernel_rfl
theorem zWY:NF 226 Tryz.f226:=fnx Tryz.func226
theorem zYN:zF Tryz.prog 226=true:=by kernel_rfl
theorem zWp:NF 227 Tryz.f227:=fnx Tryz.func227
theorem yBm:zF Tryz.prog 227=true:=by kernel_rfl
theorem zW8:NF 228 Tryz.f228:=fnx Tryz.func228
theorem zZj:zF Tryz.prog 228=true:=by kernel_rfl
theorem zXg:NF 229 Tryz.f229:=fnx Tryz.func229
theorem zX0:zF Tryz.prog 229=true:=by kernel_rfl
theorem jX:NF 230 Tryz.f230:=fnx Tryz.func230
theorem zY0:zF Tryz.prog 230=true:=by kernel_rfl
theorem zXz:NF 233 Tryz.f233:=fnx Tryz.func233
theorem yCw:zF Tryz.prog 233=true:=by kernel_rfl
theorem zKR:NF 234 Tryz.f234:=fnx Tryz.func234
theorem zJF:zF Tryz.prog 234=true:=by kernel_rfl
theorem zV1:NF 235 Tryz.f235:=fnx Tryz.func235
theorem yBh:zF Tryz.prog 235=true:=by kernel_rfl
theorem yBe:zF Tryz.prog 239=true:=by kernel_rfl
theorem yAb:zF Tryz.prog 240=true:=by kernel_rfl
theorem zWZ:NF 241 Tryz.f241:=fnx Tryz.func241
theorem zZQ:zF Tryz.prog 241=true:=by kernel_rfl
theorem zU9:NF 242 Tryz.f242:=fnx Tryz.func242
theorem yB1:zF Tryz.prog 242=true:=by kernel_rfl
theorem zVC:NF 243 Tryz.f243:=fnx Tryz.func243
theorem yCE:zF Tryz.prog 243=true:=by kernel_rfl
theorem zVA:NF 244 Tryz.f244:=fnx Tryz.func244
theorem yC5:zF Tryz.prog 244=true:=by kernel_rfl
theorem zUV:NF 245 Tryz.f245:=fnx Tryz.func245
theorem yAv:zF Tryz.prog 245=true:=by kernel_rfl
theorem zWc:NF 246 Tryz.f246:=fnx Tryz.func246
theorem yC0:zF Tryz.prog 246=true:=by kernel_rfl
theorem zVB:NF 250 Tryz.f250:=fnx Tryz.func250
theorem yB4:zF Tryz.prog 250=true:=by kernel_rfl
theorem zVd:NF 251 Tryz.f251:=fnx Tryz.func251
theorem yDd:zF Tryz.prog 251=true:=by kernel_rfl
theorem zU4:NF 252 Tryz.f252:=fnx Tryz.func252
theorem yAn:zF Tryz.prog 252=true:=by kernel_rfl
theorem zXe:NF 253 Tryz.f253:=fnx Tryz.func253
theorem yCS:zF Tryz.prog 253=true:=by kernel_rfl
theorem zOK:NF 254 Tryz.f254:=fnx Tryz.func254
theorem zHu:zF Tryz.prog 254=true:=by kernel_rfl
theorem zHO:NF 255 Tryz.f255:=fnx Tryz.func255
theorem zQh:zF Tryz.prog 255=true:=by kernel_rfl
theorem zH0:NF 256 Tryz.f256:=fnx Tryz.func256
theorem zA4:zF Tryz.prog 256=true:=by kernel_rfl
theorem zAO:NF 257 Tryz.f257:=fnx Tryz.func257
theorem zA3:zF Tryz.prog 257=true:=by kernel_rfl
theorem zHQ:NF 258 Tryz.f258:=fnx Tryz.func258
theorem zA9:zF Tryz.prog 258=true:=by kernel_rfl
theorem zHU:NF 259 Tryz.f259:=fnx Tryz.func259
theorem vV:zF Tryz.prog 259=true:=by kernel_rfl
theorem zHN:NF 260 Tryz.f260:=fnx Tryz.func260
theorem kW:zF Tryz.prog 260=true:=by kernel_rfl
theorem zHK:NF 261 Tryz.f261:=fnx Tryz.func261
theorem zAt:zF Tryz.prog 261=true:=by kernel_rfl
theorem zOm:NF 262 Tryz.f262:=fnx Tryz.func262
theorem jP:zF Tryz.prog 262=true:=by kernel_rfl
theorem zKG:NF 263 Tryz.f263:=fnx Tryz.func263
theorem zNk:zF Tryz.prog 263=true:=by kernel_rfl
theorem zXH:NF 278 Tryz.f278:=fnx Tryz.func278
theorem zX7:zF Tryz.prog 278=true:=by kernel_rfl
theorem zWn:NF 279 Tryz.f279:=fnx Tryz.func279
theorem yA5:zF Tryz.prog 279=true:=by kernel_rfl
theorem zVO:NF 281 Tryz.f281:=fnx Tryz.func281
theorem yAh:zF Tryz.prog 281=true:=by kernel_rfl
theorem zVc:NF 282 Tryz.f282:=fnx Tryz.func282
theorem yAx:zF Tryz.prog 282=true:=by kernel_rfl
theorem zHW:NF 283 Tryz.f283:=fnx Tryz.func283
theorem zGM:zF Tryz.prog 283=true:=by kernel_rfl
theorem zN4:NF 284 Tryz.f284:=fnx Tryz.func284
theorem zRu:zF Tryz.prog 284=true:=by kernel_rfl
theorem zVM:NF 285 Tryz.f285:=fnx Tryz.func285
theorem zMs:zF Tryz.prog 285=true:=by kernel_rfl
theorem zWO:NF 292 Tryz.f292:=fnx Tryz.func292
theorem zYT:zF Tryz.prog 292=true:=by kernel_rfl
theorem c2{a b:Prop}(x:a)(y:b):a∧b:=⟨x,y⟩
theorem c3{a b c:Prop}(x:a)(y:b)(z:c):a∧b∧c:=⟨x,y,z⟩
theorem c5{a b c d e:Prop}(x:a)(y:b)(z:c)(u:d)(v:e):a∧b∧c∧d∧e:=⟨x,y,z,u,v⟩
theorem zK:(und Tryz.prog 2=some (.int .i64))∧(sizeOf? Tryz.prog 2=some 1)∧(agg? Tryz.prog 2=some false)∧(zeroCells Tryz.prog 2=some [.t (.int .i64 (0))])∧(zX Tryz.prog 2=some [.t (.int .i64 (0))])∧(∀(n:Nat),small Tryz.prog 2 n=(true&&decide (n<4294967296)&&true)):=⟨zUh,by kernel_rfl,zUy,by kernel_rfl,by kernel_rfl,fun _=>by kernel_rfl⟩
theorem zO:(und Tryz.prog 3=some (.int .i64))∧(sizeOf? Tryz.prog 3=some 1)∧(agg? Tryz.prog 3=some false)∧(zeroCells Tryz.prog 3=some [.t (.int .i64 (0))])∧(zX Tryz.prog 3=some [.t (.int .i64 (0))])∧(∀(n:Nat),small Tryz.prog 3 n=(true&&decide (n<4294967296)&&true)):=by(repeat' apply And.intro)<;>intros<;>kernel_rfl
theorem zR:(und Tryz.prog 4=some .bool)∧(sizeOf? Tryz.prog 4=some 1)∧(agg? Tryz.prog 4=some false)∧(zeroCells Tryz.prog 4=some [.t (.bool false)])∧(zX Tryz.prog 4=some [.t (.bool false)])∧(∀(n:Nat),small Tryz.prog 4 n=(true&&decide (n<4294967296)&&true))∧(yR Tryz.prog 4=true):=by(repeat' apply And.intro)<;>intros<;>kernel_rfl
theorem zL:(und Tryz.prog 5=some (.int .u8))∧(sizeOf? Tryz.prog 5=some 1)∧(agg? Tryz.prog 5=some false)∧(zeroCells Tryz.prog 5=some [.t (.int .u8 (0))])∧(zX Tryz.prog 5=some [.t (.int .u8 (0))])∧(∀(n:Nat),small Tryz.prog 5 n=(true&&decide (n<4294967296)&&true)):=⟨zUK,by kernel_rfl,zUx,by kernel_rfl,by kernel_rfl,fun _=>by kernel_rfl⟩
theorem zI:(und Tryz.prog 9=some .string)∧(sizeOf? Tryz.prog 9=some 1)∧(agg? Tryz.prog 9=some false)∧(zeroCells Tryz.prog 9=some [.t (.str [])])∧(zX Tryz.prog 9=some [.t (.str [])])∧(∀(n:Nat),small Tryz.prog 9 n=(true&&decide (n<4294967296)&&true))∧(yR Tryz.prog 9=true):=⟨zE4,by kernel_rfl,zUE,by kernel_rfl,by kernel_rfl,fun _=>by kernel_rfl,by kernel_rfl⟩
theorem zMi:(sizeOf? Tryz.prog 20=some 1)∧(agg? Tryz.prog 20=some false)∧(zeroCells Tryz.prog 20=some [.t (.nilifc)])∧(zX Tryz.prog 20=some [.t (.nilifc)])∧(∀(n:Nat),small Tryz.prog 20 n=(true&&decide (n<4294967296)&&true))∧(yR Tryz.prog 20=true):=by(repeat' apply And.intro)<;>intros<;>kernel_rfl
theorem zMj:(und Tryz.prog 21=some (.int .i32))∧(sizeOf? Tryz.prog 21=some 1)∧(agg? Tryz.prog 21=some false)∧(zeroCells Tryz.prog 21=some [.t (.int .i32 (0))])∧(zX Tryz.prog 21=some [.t (.int .i32 (0))])∧(∀(n:Nat),small Tryz.prog 21 n=(true&&decide (n<4294967296)&&true)):=by(repeat' apply And.intro)<;>intros<;>kernel_rfl
theorem zH:(∀(x:AV),zW Tryz.prog 23 x 0=retO (yL 0 x))∧(∀(x:AV),yN Tryz.prog 23 x 0=match yI x with|some cs=>retO (part Tryz.prog 5 cs 0)|none=>none)∧(∀(x:AV),zW Tryz.prog 23 x 1=retO (yL 1 x))∧(∀(x:AV),yN Tryz.prog 23 x 1=match yI x with|some cs=>retO (part Tryz.prog 2 cs 1)|none=>none)∧(∀(x:AV),zW Tryz.prog 23 x 2=retO (yL 2 x))∧(∀(x:AV),yN Tryz.prog 23 x 2=match yI x with|some cs=>retO (part Tryz.prog 9 cs 2)|none=>none)∧(∀(ps:List (Nat×AV)),build Tryz.prog 23 ps=(xN Tryz.prog [(0,1),(1,1),(2,1)] [.t (.int .u8 (0)),.t (.int .i64 (0)),.t (.str [])] ps).map mkAgg)∧(sizeOf? Tryz.prog 23=some 3)∧(agg? Tryz.prog 23=some true)∧(zeroCells Tryz.prog 23=some [.t (.int .u8 (0)),.t (.int .i64 (0)),.t (.str [])])∧(zX Tryz.prog 23=zeroCells Tryz.prog 23)∧(∀(n:Nat),small Tryz.prog 23 n=(true&&decide (n<4294967296)&&true))∧(yR Tryz.prog 23=true):=⟨fun _=>by kernel_rfl,fun _=>by kernel_rfl,fun _=>by kernel_rfl,fun _=>by kernel_rfl,fun _=>by kernel_rfl,fun _=>by kernel_rfl,fun _=>by kernel_rfl,by kernel_rfl,by kernel_rfl,by kernel_rfl,by kernel_rfl,zTj,by kernel_rfl⟩
theorem zAg:(und Tryz.prog 24=some (.slice 45))∧(sizeOf? Tryz.prog 24=some 1)∧(agg? Tryz.prog 24=some false)∧(zeroCells Tryz.prog 24=some [.t (.sl true true [])])∧(zX Tryz.prog 24=some [.t (.sl true true [])])∧(∀(n:Nat),small Tryz.prog 24 n=(true&&decide (n<4294967296)&&true))∧(yR Tryz.prog 24=true):=by(repeat' apply And.intro)<;>intros<;>kernel_rfl
theorem yA:(und Tryz.prog 28=some (.slice 115))∧(sizeOf? Tryz.prog 28=some 1)∧(agg? Tryz.prog 28=some false)∧(zeroCells Tryz.prog 28=some [.t (.sl true true [])])∧(zX Tryz.prog 28=some [.t (.sl true true [])])∧(∀(n:Nat),small Tryz.prog 28 n=(true&&decide (n<4294967296)&&true))∧(yR Tryz.prog 28=true):=by(repeat' apply And.intro)<;>intros<;>kernel_rfl
theorem zS:(∀(x:AV),zW Tryz.prog 30 x 0=retO (yL 0 x))∧(∀(x:AV),yN Tryz.prog 30 x 0=match yI x with|some cs=>retO (part Tryz.prog 3 cs 0)|none=>none)∧(∀(x:AV),zW Tryz.prog 30 x 1=retO (yL 1 x))∧(∀(x:AV),yN Tryz.prog 30 x 1=match yI x with|some cs=>retO (part Tryz.prog 3 cs 1)|none=>none)∧(∀(ps:List (Nat×AV)),build Tryz.prog 30 ps=(xN Tryz.prog [(0,1),(1,1)] [.t (.int .i64 (0)),.t (.int .i64 (0))] ps).map mkAgg)∧(sizeOf? Tryz.prog 30=some 2)∧(agg? Tryz.prog 30=some true)∧(zeroCells Tryz.prog 30=some [.t (.int .i64 (0)),.t (.int .i64 (0))])∧(zX Tryz.prog 30=zeroCells Tryz.prog 30)∧(∀(n:Nat),small Tryz.prog 30 n=(true&&decide (n<4294967296)&&true))∧(yR Tryz.prog 30=true):=by(repeat' apply And.intro)<;>intros<;>kernel_rfl
theorem yB:(und Tryz.prog 31=some (.int .i64))∧(sizeOf? Tryz.prog 31=some 1)∧(agg? Tryz.prog 31=some false)∧(zeroCells Tryz.prog 31=some [.t (.int .i64 (0))])∧(zX Tryz.prog 31=some [.t (.int .i64 (0))])∧(∀(n:Nat),small Tryz.prog 31 n=(true&&decide (n<4294967296)&&true)):=by(repeat' apply And.intro)<;>intros<;>kernel_rfl
theorem xX:(und Tryz.prog 37=some (.slice 71))∧(sizeOf? Tryz.prog 37=some 1)∧(agg? Tryz.prog 37=some false)∧(zeroCells Tryz.prog 37=some [.t (.sl true true [])])∧(zX Tryz.prog 37=some [.t (.sl true true [])])∧(∀(n:Nat),small Tryz.prog 37 n=(true&&decide (n<4294967296)&&true))∧(yR Tryz.prog 37=true):=by(repeat' apply And.intro)<;>intros<;>kernel_rfl
theorem zAb:(∀(x:AV),zW Tryz.prog 45 x 0=retO (yL 0 x))∧(∀(x:AV),yN Tryz.prog 45 x 0=match yI x with|some cs=>retO (part Tryz.prog 9 cs 0)|none=>none)∧(∀(x:AV),zW Tryz.prog 45 x 1=retO (yL 1 x))∧(∀(x:AV),yN Tryz.prog 45 x 1=match yI x with|some cs=>retO (part Tryz.prog 23 cs 1)|none=>none)∧(∀(ps:List (Nat×AV)),build Tryz.prog 45 ps=(xN Tryz.prog [(0,1),(1,3)] [.t (.str []),.t (.int .u8 (0)),.t (.int .i64 (0)),.t (.str [])] ps).map mkAgg)∧(sizeOf? Tryz.prog 45=some 4)∧(agg? Tryz.prog 45=some true)∧(zeroCells Tryz.prog 45=some [.t (.str []),.t (.int .u8 (0)),.t (.int .i64 (0)),.t (.str [])])∧(zX Tryz.prog 45=zeroCells Tryz.prog 45)∧(∀(n:Nat),small Tryz.prog 45 n=(true&&decide (n<4294967296)&&true))∧(yR Tryz.prog 45=true):=by(repeat' apply And.intro)<;>intros<;>kernel_rfl
theorem kH:(und Tryz.prog 50=some (.slice 9))∧(sizeOf? Tryz.prog 50=some 1)∧(agg? Tryz.prog 50=some false)∧(zeroCells Tryz.prog 50=some [.t (.sl true true [])])∧(zX Tryz.prog 50=some [.t (.sl true true [])])∧(∀(n:Nat),small Tryz.prog 50 n=(true&&decide (n<4294967296)&&true))∧(yR Tryz.prog 50=true):=by(repeat' apply And.intro)<;>intros<;>kernel_rfl
theorem yG:(und Tryz.prog 55=some (.slice 61))∧(sizeOf? Tryz.prog 55=some 1)∧(agg? Tryz.prog 55=some false)∧(zeroCells Tryz.prog 55=some [.t (.sl true true [])])∧(zX Tryz.prog 55=some [.t (.sl true true [])])∧(∀(n:Nat),small Tryz.prog 55 n=(true&&decide (n<4294967296)&&true))∧(yR Tryz.prog 55=true):=by(repeat' apply And.intro)<;>intros<;>kernel_rfl
theorem yF:(∀(x:AV),zW Tryz.prog 61 x 0=retO (yL 0 x))∧(∀(x:AV),yN Tryz.prog 61 x 0=match yI x with|some cs=>retO (part Tryz.prog 5 cs 0)|none=>none)∧(∀(x:AV),zW Tryz.prog 61 x 1=retO (yL 1 x))∧(∀(x:AV),yN Tryz.prog 61 x 1=match yI x with|some cs=>retO (part Tryz.prog 9 cs 1)|none=>none)∧(∀(x:AV),zW Tryz.prog 61 x 2=retO (yL 2 x))∧(∀(x:AV),yN Tryz.prog 61 x 2=match yI x with|some cs=>retO (part Tryz.prog 23 cs 2)|none=>none)∧(∀(x:AV),zW Tryz.prog 61 x 3=retO (yL 5 x))∧(∀(x:AV),yN Tryz.prog 61 x 3=match yI x with|some cs=>retO (part Tryz.prog 30 cs 5)|none=>none)∧(∀(ps:List (Nat×AV)),build Tryz.prog 61 ps=(xN Tryz.prog [(0,1),(1,1),(2,3),(5,2)] [.t (.int .u8 (0)),.t (.str []),.t (.int .u8 (0)),.t (.int .i64 (0)),.t (.str []),.t (.int .i64 (0)),.t (.int .i64 (0))] ps).map mkAgg)∧(sizeOf? Tryz.prog 61=some 7)∧(agg? Tryz.prog 61=some true)∧(zeroCells Tryz.prog 61=some [.t (.int .u8 (0)),.t (.str []),.t (.int .u8 (0)),.t (.int .i64 (0)),.t (.str []),.t (.int .i64 (0)),.t (.int .i64 (0))])∧(zX Tryz.prog 61=zeroCells Tryz.prog 61)∧(∀(n:Nat),small Tryz.prog 61 n=(true&&decide (n<4294967296)&&true))∧(yR Tryz.prog 61=true):=by(repeat' apply And.intro)<;>intros<;>kernel_rfl
theorem zFf:(∀(x:AV),zW Tryz.prog 67 x 0=retO (yL 0 x))∧(∀(x:AV),yN Tryz.prog 67 x 0=match yI x with|some cs=>retO (part Tryz.prog 23 cs 0)|none=>none)∧(∀(x:AV),zW Tryz.prog 67 x 1=retO (yL 3 x))∧(∀(x:AV),yN Tryz.prog 67 x 1=match yI x with|some cs=>retO (part Tryz.prog 31 cs 3)|none=>none)∧(∀(ps:List (Nat×AV)),build Tryz.prog 67 ps=(xN Tryz.prog [(0,3),(3,1)] [.t (.int .u8 (0)),.t (.int .i64 (0)),.t (.str []),.t (.int .i64 (0))] ps).map mkAgg)∧(sizeOf? Tryz.prog 67=some 4)∧(agg? Tryz.prog 67=some true)∧(zeroCells Tryz.prog 67=some [.t (.int .u8 (0)),.t (.int .i64 (0)),.t (.str []),.t (.int .i64 (0))])∧(zX Tryz.prog 67=zeroCells Tryz.prog 67)∧(∀(n:Nat),small Tryz.prog 67 n=(true&&decide (n<4294967296)&&true))∧(yR Tryz.prog 67=true):=by(repeat' apply And.intro)<;>intros<;>kernel_rfl
theorem zUj:(und Tryz.prog 68=some (.slice 67))∧(sizeOf? Tryz.prog 68=some 1)∧(agg? Tryz.prog 68=some false)∧(zeroCells Tryz.prog 68=some [.t (.sl true true [])])∧(zX Tryz.prog 68=some [.t (.sl true true [])])∧(∀(n:Nat),small Tryz.prog 68 n=(true&&decide (n<4294967296)&&true))∧(yR Tryz.prog 68=true):=by(repeat' apply And.intro)<;>intros<;>kernel_rfl
theorem zY:(und Tryz.prog 69=some (.slice 3))∧(sizeOf? Tryz.prog 69=some 1)∧(agg? Tryz.prog 69=some false)∧(zeroCells Tryz.prog 69=some [.t (.sl true true [])])∧(zX Tryz.prog 69=some [.t (.sl true true [])])∧(∀(n:Nat),small Tryz.prog 69 n=(true&&decide (n<4294967296)&&true))∧(yR Tryz.prog 69=true):=by(repeat' apply And.intro)<;>intros<;>kernel_rfl
theorem xP:(∀(x:AV),zW Tryz.prog 71 x 0=retO (yL 0 x))∧(∀(x:AV),yN Tryz.prog 71 x 0=match yI x with|some cs=>retO (part Tryz.prog 5 cs 0)|none=>none)∧(∀(x:AV),zW Tryz.prog 71 x 1=retO (yL 1 x))∧(∀(x:AV),yN Tryz.prog 71 x 1=match yI x with|some cs=>retO (part Tryz.prog 28 cs 1)|none=>none)∧(∀(x:AV),zW Tryz.prog 71 x 2=retO (yL 2 x))∧(∀(x:AV),yN Tryz.prog 71 x 2=match yI x with|some cs=>retO (part Tryz.prog 28 cs 2)|none=>none)∧(∀(x:AV),zW Tryz.prog 71 x 3=retO (yL 3 x))∧(∀(x:AV),yN Tryz.prog 71 x 3=match yI x with|some cs=>retO (part Tryz.prog 4 cs 3)|none=>none)∧(∀(x:AV),zW Tryz.prog 71 x 4=retO (yL 4 x))∧(∀(x:AV),yN Tryz.prog 71 x 4=match yI x with|some cs=>retO (part Tryz.prog 4 cs 4)|none=>none)∧(∀(x:AV),zW Tryz.prog 71 x 5=retO (yL 5 x))∧(∀(x:AV),yN Tryz.prog 71 x 5=match yI x with|some cs=>retO (part Tryz.prog 69 cs 5)|none=>none)∧(∀(x:AV),zW Tryz.prog 71 x 6=retO (yL 6 x))∧(∀(x:AV),yN Tryz.prog 71 x 6=match yI x with|some cs=>retO (part Tryz.prog 30 cs 6)|none=>none)∧(∀(ps:List (Nat×AV)),build Tryz.prog 71 ps=(xN Tryz.prog [(0,1),(1,1),(2,1),(3,1),(4,1),(5,1),(6,2)] [.t (.int .u8 (0)),.t (.sl true true []),.t (.sl true true []),.t (.bool false),.t (.bool false),.t (.sl true true []),.t (.int .i64 (0)),.t (.int .i64 (0))] ps).map mkAgg)∧(sizeOf? Tryz.prog 71=some 8)∧(agg? Tryz.prog 71=some true)∧(zeroCells Tryz.prog 71=some [.t (.int .u8 (0)),.t (.sl true true []),.t (.sl true true []),.t (.bool false),.t (.bool false),.t (.sl true true []),.t (.int .i64 (0)),.t (.int .i64 (0))])∧(zX Tryz.prog 71=zeroCells Tryz.prog 71)∧(∀(n:Nat),small Tryz.prog 71 n=(true&&decide (n<4294967296)&&true))∧(yR Tryz.prog 71=true):=by(repeat' apply And.intro)<;>intros<;>kernel_rfl
theorem yEj:(und Tryz.prog 89=some (.pointer 3))∧(sizeOf? Tryz.prog 89=some 1)∧(agg? Tryz.prog 89=some false)∧(zeroCells Tryz.prog 89=some [.t (.nilptr)])∧(zX Tryz.prog 89=some [.t (.nilptr)])∧(∀(n:Nat),small Tryz.prog 89 n=(true&&decide (n<4294967296)&&true))∧(yR Tryz.prog 89=true):=by(repeat' apply And.intro)<;>intros<;>kernel_rfl
theorem zUL:(sizeOf? Tryz.prog 92=some 1)∧(agg? Tryz.prog 92=some false)∧(zeroCells Tryz.prog 92=some [.t (.nilfn)])∧(zX Tryz.prog 92=some [.t (.nilfn)])∧(∀(n:Nat),small Tryz.prog 92 n=(true&&decide (n<4294967296)&&true))∧(yR Tryz.prog 92=true):=by(repeat' apply And.intro)<;>intros<;>kernel_rfl
theorem yDn:(sizeOf? Tryz.prog 93=some 1)∧(agg? Tryz.prog 93=some false)∧(zeroCells Tryz.prog 93=some [.t (.nilfn)])∧(zX Tryz.prog 93=some [.t (.nilfn)])∧(∀(n:Nat),small Tryz.prog 93 n=(true&&decide (n<4294967296)&&true))∧(yR Tryz.prog 93=true):=by(repeat' apply And.intro)<;>intros<;>kernel_rfl
theorem uE:(und Tryz.prog 94=some (.pointer 131))∧(sizeOf? Tryz.prog 94=some 1)∧(agg? Tryz.prog 94=some false)∧(zeroCells Tryz.prog 94=some [.t (.nilptr)])∧(zX Tryz.prog 94=some [.t (.nilptr)])∧(∀(n:Nat),small Tryz.prog 94 n=(true&&decide (n<4294967296)&&true))∧(yR Tryz.prog 94=true):=by(repeat' apply And.intro)<;>intros<;>kernel_rfl
theorem zPX:(und Tryz.prog 95=some (.slice 5))∧(sizeOf? Tryz.prog 95=some 1)∧(agg? Tryz.prog 95=some false)∧(zeroCells Tryz.prog 95=some [.t (.sl true true [])])∧(zX Tryz.prog 95=some [.t (.sl true true [])])∧(∀(n:Nat),small Tryz.prog 95 n=(true&&decide (n<4294967296)&&true))∧(yR Tryz.prog 95=true):=by(repeat' apply And.intro)<;>intros<;>kernel_rfl
theorem zUR:(und Tryz.prog 96=some (.slice 28))∧(sizeOf? Tryz.prog 96=some 1)∧(agg? Tryz.prog 96=some false)∧(zeroCells Tryz.prog 96=some [.t (.sl true true [])])∧(zX Tryz.prog 96=some [.t (.sl true true [])])∧(∀(n:Nat),small Tryz.prog 96 n=(true&&decide (n<4294967296)&&true))∧(yR Tryz.prog 96=true):=by(repeat' apply And.intro)<;>intros<;>kernel_rfl
theorem zGL:(sizeOf? Tryz.prog 102=some 1)∧(agg? Tryz.prog 102=some false)∧(zeroCells Tryz.prog 102=some [.t (.nilfn)])∧(zX Tryz.prog 102=some [.t (.nilfn)])∧(∀(n:Nat),small Tryz.prog 102 n=(true&&decide (n<4294967296)&&true))∧(yR Tryz.prog 102=true):=by(repeat' apply And.intro)<;>intros<;>kernel_rfl
theorem zBI:(∀(x:AV),zW Tryz.prog 110 x 0=retO (yL 0 x))∧(∀(x:AV),yN Tryz.prog 110 x 0=match yI x with|some cs=>retO (part Tryz.prog 9 cs 0)|none=>none)∧(∀(x:AV),zW Tryz.prog 110 x 1=retO (yL 1 x))∧(∀(x:AV),yN Tryz.prog 110 x 1=match yI x with|some cs=>retO (part Tryz.prog 5 cs 1)|none=>none)∧(∀(x:AV),zW Tryz.prog 110 x 2=retO (yL 2 x))∧(∀(x:AV),yN Tryz.prog 110 x 2=match yI x with|some cs=>retO (part Tryz.prog 5 cs 2)|none=>none)∧(∀(ps:List (Nat×AV)),build Tryz.prog 110 ps=(xN Tryz.prog [(0,1),(1,1),(2,1)] [.t (.str []),.t (.int .u8 (0)),.t (.int .u8 (0))] ps).map mkAgg)∧(sizeOf? Tryz.prog 110=some 3)∧(agg? Tryz.prog 110=some true)∧(zeroCells Tryz.prog 110=some [.t (.str []),.t (.int .u8 (0)),.t (.int .u8 (0))])∧(zX Tryz.prog 110=zeroCells Tryz.prog 110)∧(∀(n:Nat),small Tryz.prog 110 n=(true&&decide (n<4294967296)&&true))∧(yR Tryz.prog 110=true):=by(repeat' apply And.intro)<;>intros<;>kernel_rfl
theorem zBy:(und Tryz.prog 111=some (.array 5 110))∧(sizeOf? Tryz.prog 111=some 15)∧(agg? Tryz.prog 111=some true)∧(zeroCells Tryz.prog 111=some [.t (.str []),.t (.int .u8 (0)),.t (.int .u8 (0)),.t (.str []),.t (.int .u8 (0)),.t (.int .u8 (0)),.t (.str []),.t (.int .u8 (0)),.t (.int .u8 (0)),.t (.str []),.t (.int .u8 (0)),.t (.int .u8 (0)),.t (.str []),.t (.int .u8 (0)),.t (.int .u8 (0))])∧(zX Tryz.prog 111=zeroCells Tryz.prog 111)∧(∀(n:Nat),small Tryz.prog 111 n=(true&&decide (n<4294967296)&&true))∧(yR Tryz.prog 111=true):=by(repeat' apply And.intro)<;>intros<;>kernel_rfl
theorem zQ:(∀(x:AV),zW Tryz.prog 115 x 0=retO (yL 0 x))∧(∀(x:AV),yN Tryz.prog 115 x 0=match yI x with|some cs=>retO (part Tryz.prog 5 cs 0)|none=>none)∧(∀(x:AV),zW Tryz.prog 115 x 1=retO (yL 1 x))∧(∀(x:AV),yN Tryz.prog 115 x 1=match yI x with|some cs=>retO (part Tryz.prog 23 cs 1)|none=>none)∧(∀(x:AV),zW Tryz.prog 115 x 2=retO (yL 4 x))∧(∀(x:AV),yN Tryz.prog 115 x 2=match yI x with|some cs=>retO (part Tryz.prog 9 cs 4)|none=>none)∧(∀(x:AV),zW Tryz.prog 115 x 3=retO (yL 5 x))∧(∀(x:AV),yN Tryz.prog 115 x 3=match yI x with|some cs=>retO (part Tryz.prog 69 cs 5)|none=>none)∧(∀(x:AV),zW Tryz.prog 115 x 4=retO (yL 6 x))∧(∀(x:AV),yN Tryz.prog 115 x 4=match yI x with|some cs=>retO (part Tryz.prog 30 cs 6)|none=>none)∧(∀(ps:List (Nat×AV)),build Tryz.prog 115 ps=(xN Tryz.prog [(0,1),(1,3),(4,1),(5,1),(6,2)] [.t (.int .u8 (0)),.t (.int .u8 (0)),.t (.int .i64 (0)),.t (.str []),.t (.str []),.t (.sl true true []),.t (.int .i64 (0)),.t (.int .i64 (0))] ps).map mkAgg)∧(sizeOf? Tryz.prog 115=some 8)∧(agg? Tryz.prog 115=some true)∧(zeroCells Tryz.prog 115=some [.t (.int .u8 (0)),.t (.int .u8 (0)),.t (.int .i64 (0)),.t (.str []),.t (.str []),.t (.sl true true []),.t (.int .i64 (0)),.t (.int .i64 (0))])∧(zX Tryz.prog 115=zeroCells Tryz.prog 115)∧(∀(n:Nat),small Tryz.prog 115 n=(true&&decide (n<4294967296)&&true))∧(yR Tryz.prog 115=true):=by(repeat' apply And.intro)<;>intros<;>kernel_rfl
theorem zEC:(sizeOf? Tryz.prog 120=some 1)∧(agg? Tryz.prog 120=some false)∧(zeroCells Tryz.prog 120=some [.t (.nilfn)])∧(zX Tryz.prog 120=some [.t (.nilfn)])∧(∀(n:Nat),small Tryz.prog 120 n=(true&&decide (n<4294967296)&&true))∧(yR Tryz.prog 120=true):=by(repeat' apply And.intro)<;>intros<;>kernel_rfl
theorem zDG:(sizeOf? Tryz.prog 121=some 1)∧(agg? Tryz.prog 121=some false)∧(zeroCells Tryz.prog 121=some [.t (.nilfn)])∧(zX Tryz.prog 121=some [.t (.nilfn)])∧(∀(n:Nat),small Tryz.prog 121 n=(true&&decide (n<4294967296)&&true))∧(yR Tryz.prog 121=true):=by(repeat' apply And.intro)<;>intros<;>kernel_rfl
theorem yB9:(sizeOf? Tryz.prog 126=some 1)∧(agg? Tryz.prog 126=some false)∧(zeroCells Tryz.prog 126=some [.t (.nilfn)])∧(zX Tryz.prog 126=some [.t (.nilfn)])∧(∀(n:Nat),small Tryz.prog 126 n=(true&&decide (n<4294967296)&&true))∧(yR Tryz.prog 126=true):=by(repeat' apply And.intro)<;>intros<;>kernel_rfl
theorem vG:(∀(x:AV),zW Tryz.prog 131 x 0=retO (yL 0 x))∧(∀(x:AV),yN Tryz.prog 131 x 0=match yI x with|some cs=>retO (part Tryz.prog 55 cs 0)|none=>none)∧(∀(x:AV),zW Tryz.prog 131 x 1=retO (yL 1 x))∧(∀(x:AV),yN Tryz.prog 131 x 1=match yI x with|some cs=>retO (part Tryz.prog 3 cs 1)|none=>none)∧(∀(x:AV),zW Tryz.prog 131 x 2=retO (yL 2 x))∧(∀(x:AV),yN Tryz.prog 131 x 2=match yI x with|some cs=>retO (part Tryz.prog 3 cs 2)|none=>none)∧(∀(x:AV),zW Tryz.prog 131 x 3=retO (yL 3 x))∧(∀(x:AV),yN Tryz.prog 131 x 3=match yI x with|some cs=>retO (part Tryz.prog 37 cs 3)|none=>none)∧(∀(ps:List (Nat×AV)),build Tryz.prog 131 ps=(xN Tryz.prog [(0,1),(1,1),(2,1),(3,1)] [.t (.sl true true []),.t (.int .i64 (0)),.t (.int .i64 (0)),.t (.sl true true [])] ps).map mkAgg)∧(sizeOf? Tryz.prog 131=some 4)∧(agg? Tryz.prog 131=some true)∧(zeroCells Tryz.prog 131=some [.t (.sl true true []),.t (.int .i64 (0)),.t (.int .i64 (0)),.t (.sl true true [])])∧(zX Tryz.prog 131=zeroCells Tryz.prog 131)∧(∀(n:Nat),small Tryz.prog 131 n=(true&&decide (n<4294967296)&&true))∧(yR Tryz.prog 131=true):=by(repeat' apply And.intro)<;>intros<;>kernel_rfl
theorem zMS:(∀(x:AV),zW Tryz.prog 133 x 0=retO (yL 0 x))∧(∀(x:AV),yN Tryz.prog 133 x 0=match yI x with|some cs=>retO (part Tryz.prog 3 cs 0)|none=>none)∧(∀(x:AV),zW Tryz.prog 133 x 1=retO (yL 1 x))∧(∀(x:AV),yN Tryz.prog 133 x 1=match yI x with|some cs=>retO (part Tryz.prog 31 cs 1)|none=>none)∧(∀(ps:List (Nat×AV)),build Tryz.prog 133 ps=(xN Tryz.prog [(0,1),(1,1)] [.t (.int .i64 (0)),.t (.int .i64 (0))] ps).map mkAgg)∧(sizeOf? Tryz.prog 133=some 2)∧(agg? Tryz.prog 133=some true)∧(zeroCells Tryz.prog 133=some [.t (.int .i64 (0)),.t (.int .i64 (0))])∧(zX Tryz.prog 133=zeroCells Tryz.prog 133)∧(∀(n:Nat),small Tryz.prog 133 n=(true&&decide (n<4294967296)&&true))∧(yR Tryz.prog 133=true):=by(repeat' apply And.intro)<;>intros<;>kernel_rfl
theorem zMN:(sizeOf? Tryz.prog 135=some 1)∧(agg? Tryz.prog 135=some false)∧(zeroCells Tryz.prog 135=some [.t (.nilfn)])∧(zX Tryz.prog 135=some [.t (.nilfn)])∧(∀(n:Nat),small Tryz.prog 135 n=(true&&decide (n<4294967296)&&true))∧(yR Tryz.prog 135=true):=by(repeat' apply And.intro)<;>intros<;>kernel_rfl
theorem kY:(und Tryz.prog 137=some (.slice 139))∧(sizeOf? Tryz.prog 137=some 1)∧(agg? Tryz.prog 137=some false)∧(zeroCells Tryz.prog 137=some [.t (.sl true true [])])∧(zX Tryz.prog 137=some [.t (.sl true true [])])∧(∀(n:Nat),small Tryz.prog 137 n=(true&&decide (n<4294967296)&&true))∧(yR Tryz.prog 137=true):=by(repeat' apply And.intro)<;>intros<;>kernel_rfl
theorem xY:(∀(x:AV),zW Tryz.prog 139 x 0=retO (yL 0 x))∧(∀(x:AV),yN Tryz.prog 139 x 0=match yI x with|some cs=>retO (part Tryz.prog 23 cs 0)|none=>none)∧(∀(x:AV),zW Tryz.prog 139 x 1=retO (yL 3 x))∧(∀(x:AV),yN Tryz.prog 139 x 1=match yI x with|some cs=>retO (part Tryz.prog 31 cs 3)|none=>none)∧(∀(ps:List (Nat×AV)),build Tryz.prog 139 ps=(xN Tryz.prog [(0,3),(3,1)] [.t (.int .u8 (0)),.t (.int .i64 (0)),.t (.str []),.t (.int .i64 (0))] ps).map mkAgg)∧(sizeOf? Tryz.prog 139=some 4)∧(agg? Tryz.prog 139=some true)∧(zeroCells Tryz.prog 139=some [.t (.int .u8 (0)),.t (.int .i64 (0)),.t (.str []),.t (.int .i64 (0))])∧(zX Tryz.prog 139=zeroCells Tryz.prog 139)∧(∀(n:Nat),small Tryz.prog 139 n=(true&&decide (n<4294967296)&&true))∧(yR Tryz.prog 139=true):=by(repeat' apply And.intro)<;>intros<;>kernel_rfl
theorem kV:(und Tryz.prog 140=some (.slice 4))∧(sizeOf? Tryz.prog 140=some 1)∧(agg? Tryz.prog 140=some false)∧(zeroCells Tryz.prog 140=some [.t (.sl true true [])])∧(zX Tryz.prog 140=some [.t (.sl true true [])])∧(∀(n:Nat),small Tryz.prog 140 n=(true&&decide (n<4294967296)&&true))∧(yR Tryz.prog 140=true):=by(repeat' apply And.intro)<;>intros<;>kernel_rfl
theorem jB:(∀(x:AV),zW Tryz.prog 142 x 0=retO (yL 0 x))∧(∀(x:AV),yN Tryz.prog 142 x 0=match yI x with|some cs=>retO (part Tryz.prog 137 cs 0)|none=>none)∧(∀(x:AV),zW Tryz.prog 142 x 1=retO (yL 1 x))∧(∀(x:AV),yN Tryz.prog 142 x 1=match yI x with|some cs=>retO (part Tryz.prog 140 cs 1)|none=>none)∧(∀(ps:List (Nat×AV)),build Tryz.prog 142 ps=(xN Tryz.prog [(0,1),(1,1)] [.t (.sl true true []),.t (.sl true true [])] ps).map mkAgg)∧(sizeOf? Tryz.prog 142=some 2)∧(agg? Tryz.prog 142=some true)∧(zeroCells Tryz.prog 142=some [.t (.sl true true []),.t (.sl true true [])])∧(zX Tryz.prog 142=zeroCells Tryz.prog 142)∧(∀(n:Nat),small Tryz.prog 142 n=(true&&decide (n<4294967296)&&true))∧(yR Tryz.prog 142=true):=by(repeat' apply And.intro)<;>intros<;>kernel_rfl
theorem wP:(und Tryz.prog 149=some (.slice 23))∧(sizeOf? Tryz.prog 149=some 1)∧(agg? Tryz.prog 149=some false)∧(zeroCells Tryz.prog 149=some [.t (.sl true true [])])∧(zX Tryz.prog 149=some [.t (.sl true true [])])∧(∀(n:Nat),small Tryz.prog 149 n=(true&&decide (n<4294967296)&&true))∧(yR Tryz.prog 149=true):=by(repeat' apply And.intro)<;>intros<;>kernel_rfl
theorem zBA:(sizeOf? Tryz.prog 157=some 1)∧(agg? Tryz.prog 157=some false)∧(zeroCells Tryz.prog 157=some [.t (.nilifc)])∧(zX Tryz.prog 157=some [.t (.nilifc)])∧(∀(n:Nat),small Tryz.prog 157 n=(true&&decide (n<4294967296)&&true))∧(yR Tryz.prog 157=true):=by(repeat' apply And.intro)<;>intros<;>kernel_rfl
theorem yA8:(und Tryz.prog 175=some (.array 4 9))∧(sizeOf? Tryz.prog 175=some 4)∧(agg? Tryz.prog 175=some true)∧(zeroCells Tryz.prog 175=some [.t (.str []),.t (.str []),.t (.str []),.t (.str [])])∧(zX Tryz.prog 175=zeroCells Tryz.prog 175)∧(∀(n:Nat),small Tryz.prog 175 n=(true&&decide (n<4294967296)&&true))∧(yR Tryz.prog 175=true):=by(repeat' apply And.intro)<;>intros<;>kernel_rfl
theorem zAU:(sizeOf? Tryz.prog 187=some 1)∧(agg? Tryz.prog 187=some false)∧(zeroCells Tryz.prog 187=some [.t (.nilfn)])∧(zX Tryz.prog 187=some [.t (.nilfn)])∧(∀(n:Nat),small Tryz.prog 187 n=(true&&decide (n<4294967296)&&true))∧(yR Tryz.prog 187=true):=by(repeat' apply And.intro)<;>intros<;>kernel_rfl
theorem zMo:(sizeOf? Tryz.prog 189=some 1)∧(agg? Tryz.prog 189=some false)∧(zeroCells Tryz.prog 189=some [.t (.nilfn)])∧(zX Tryz.prog 189=some [.t (.nilfn)])∧(∀(n:Nat),small Tryz.prog 189 n=(true&&decide (n<4294967296)&&true))∧(yR Tryz.prog 189=true):=by(repeat' apply And.intro)<;>intros<;>kernel_rfl
theorem zDx:(∀(x:AV),zW Tryz.prog 208 x 0=retO (yL 0 x))∧(∀(x:AV),yN Tryz.prog 208 x 0=match yI x with|some cs=>retO (part Tryz.prog 121 cs 0)|none=>none)∧(∀(ps:List (Nat×AV)),build Tryz.prog 208 ps=(xN Tryz.prog [(0,1)] [.t (.nilfn)] ps).map mkAgg)∧(sizeOf? Tryz.prog 208=some 1)∧(agg? Tryz.prog 208=some true)∧(zeroCells Tryz.prog 208=some [.t (.nilfn)])∧(zX Tryz.prog 208=some [.t (.nilfn)])∧(∀(n:Nat),small Tryz.prog 208 n=(true&&decide (n<4294967296)&&true))∧(yR Tryz.prog 208=true):=by(repeat' apply And.intro)<;>intros<;>kernel_rfl
theorem zDw:(und Tryz.prog 210=some (.map 5 208))∧(sizeOf? Tryz.prog 210=some 1)∧(agg? Tryz.prog 210=some false)∧(zeroCells Tryz.prog 210=some [.t (.nilmap)])∧(zX Tryz.prog 210=some [.t (.nilmap)])∧(∀(n:Nat),small Tryz.prog 210 n=(true&&decide (n<4294967296)&&true))∧(yR Tryz.prog 210=true):=by(repeat' apply And.intro)<;>intros<;>kernel_rfl
theorem yO:(und Tryz.prog 224=some (.pointer 226))∧(sizeOf? Tryz.prog 224=some 1)∧(agg? Tryz.prog 224=some false)∧(zeroCells Tryz.prog 224=some [.t (.nilptr)])∧(zX Tryz.prog 224=some [.t (.nilptr)])∧(∀(n:Nat),small Tryz.prog 224 n=(true&&decide (n<4294967296)&&true))∧(yR Tryz.prog 224=true):=by(repeat' apply And.intro)<;>intros<;>kernel_rfl
theorem yP:(∀(x:AV),zW Tryz.prog 226 x 0=retO (yL 0 x))∧(∀(x:AV),yN Tryz.prog 226 x 0=match yI x with|some cs=>retO (part Tryz.prog 55 cs 0)|none=>none)∧(∀(x:AV),zW Tryz.prog 226 x 1=retO (yL 1 x))∧(∀(x:AV),yN Tryz.prog 226 x 1=match yI x with|some cs=>retO (part Tryz.prog 3 cs 1)|none=>none)∧(∀(x:AV),zW Tryz.prog 226 x 2=retO (yL 2 x))∧(∀(x:AV),yN Tryz.prog 226 x 2=match yI x with|some cs=>retO (part Tryz.prog 3 cs 2)|none=>none)∧(∀(x:AV),zW Tryz.prog 226 x 3=retO (yL 3 x))∧(∀(x:AV),yN Tryz.prog 226 x 3=match yI x with|some cs=>retO (part Tryz.prog 28 cs 3)|none=>none)∧(∀(ps:List (Nat×AV)),build Tryz.prog 226 ps=(xN Tryz.prog [(0,1),(1,1),(2,1),(3,1)] [.t (.sl true true []),.t (.int .i64 (0)),.t (.int .i64 (0)),.t (.sl true true [])] ps).map mkAgg)∧(sizeOf? Tryz.prog 226=some 4)∧(agg? Tryz.prog 226=some true)∧(zeroCells Tryz.prog 226=some [.t (.sl true true []),.t (.int .i64 (0)),.t (.int .i64 (0)),.t (.sl true true [])])∧(zX Tryz.prog 226=zeroCells Tryz.prog 226)∧(∀(n:Nat),small Tryz.prog 226 n=(true&&decide (n<4294967296)&&true))∧(yR Tryz.prog 226=true):=by(repeat' apply And.intro)<;>intros<;>kernel_rfl
theorem vL:(und Tryz.prog 227=some (.int .i64))∧(sizeOf? Tryz.prog 227=some 1)∧(agg? Tryz.prog 227=some false)∧(zeroCells Tryz.prog 227=some [.t (.int .i64 (0))])∧(zX Tryz.prog 227=some [.t (.int .i64 (0))])∧(∀(n:Nat),small Tryz.prog 227 n=(true&&decide (n<4294967296)&&true)):=by(repeat' apply And.intro)<;>intros<;>kernel_rfl
theorem jN:(und Tryz.prog 244=some (.int .u64))∧(sizeOf? Tryz.prog 244=some 1)∧(agg? Tryz.prog 244=some false)∧(zeroCells Tryz.prog 244=some [.t (.int .u64 (0))])∧(zX Tryz.prog 244=some [.t (.int .u64 (0))])∧(∀(n:Nat),small Tryz.prog 244 n=(true&&decide (n<4294967296)&&true)):=by(repeat' apply And.intro)<;>intros<;>kernel_rfl
theorem zGF:(sizeOf? Tryz.prog 250=some 1)∧(agg? Tryz.prog 250=some false)∧(zeroCells Tryz.prog 250=some [.t (.nilfn)])∧(zX Tryz.prog 250=some [.t (.nilfn)])∧(∀(n:Nat),small Tryz.prog 250 n=(true&&decide (n<4294967296)&&true))∧(yR Tryz.prog 250=true):=by(repeat' apply And.intro)<;>intros<;>kernel_rfl
theorem yAj:(und Tryz.prog 262=some (.array 8 93))∧(sizeOf? Tryz.prog 262=some 8)∧(agg? Tryz.prog 262=some true)∧(zeroCells Tryz.prog 262=some [.t (.nilfn),.t (.nilfn),.t (.nilfn),.t (.nilfn),.t (.nilfn),.t (.nilfn),.t (.nilfn),.t (.nilfn)])∧(zX Tryz.prog 262=zeroCells Tryz.prog 262)∧(∀(n:Nat),small Tryz.prog 262 n=(true&&decide (n<4294967296)&&true))∧(yR Tryz.prog 262=true):=by(repeat' apply And.intro)<;>intros<;>kernel_rfl
theorem zBf:(sizeOf? Tryz.prog 265=some 1)∧(agg? Tryz.prog 265=some false)∧(zeroCells Tryz.prog 265=some [.t (.nilfn)])∧(zX Tryz.prog 265=some [.t (.nilfn)])∧(∀(n:Nat),small Tryz.prog 265 n=(true&&decide (n<4294967296)&&true))∧(yR Tryz.prog 265=true):=by(repeat' apply And.intro)<;>intros<;>kernel_rfl
theorem yCA:(und Tryz.prog 270=some (.int .u64))∧(sizeOf? Tryz.prog 270=some 1)∧(agg? Tryz.prog 270=some false)∧(zeroCells Tryz.prog 270=some [.t (.int .u64 (0))])∧(zX Tryz.prog 270=some [.t (.int .u64 (0))])∧(∀(n:Nat),small Tryz.prog 270 n=(true&&decide (n<4294967296)&&true)):=by(repeat' apply And.intro)<;>intros<;>kernel_rfl
theorem zCu:(∀(x:AV),zW Tryz.prog 276 x 0=retO (yL 0 x))∧(∀(x:AV),yN Tryz.prog 276 x 0=match yI x with|some cs=>retO (part Tryz.prog 9 cs 0)|none=>none)∧(∀(x:AV),zW Tryz.prog 276 x 1=retO (yL 1 x))∧(∀(x:AV),yN Tryz.prog 276 x 1=match yI x with|some cs=>retO (part Tryz.prog 5 cs 1)|none=>none)∧(∀(ps:List (Nat×AV)),build Tryz.prog 276 ps=(xN Tryz.prog [(0,1),(1,1)] [.t (.str []),.t (.int .u8 (0))] ps).map mkAgg)∧(sizeOf? Tryz.prog 276=some 2)∧(agg? Tryz.prog 276=some true)∧(zeroCells Tryz.prog 276=some [.t (.str []),.t (.int .u8 (0))])∧(zX Tryz.prog 276=zeroCells Tryz.prog 276)∧(∀(n:Nat),small Tryz.prog 276 n=(true&&decide (n<4294967296)&&true))∧(yR Tryz.prog 276=true):=by(repeat' apply And.intro)<;>intros<;>kernel_rfl
theorem kZ:(∀(x:AV),zW Tryz.prog 281 x 0=retO (yL 0 x))∧(∀(x:AV),yN Tryz.prog 281 x 0=match yI x with|some cs=>retO (part Tryz.prog 5 cs 0)|none=>none)∧(∀(x:AV),zW Tryz.prog 281 x 1=retO (yL 1 x))∧(∀(x:AV),yN Tryz.prog 281 x 1=match yI x with|some cs=>retO (part Tryz.prog 3 cs 1)|none=>none)∧(∀(x:AV),zW Tryz.prog 281 x 2=retO (yL 2 x))∧(∀(x:AV),yN Tryz.prog 281 x 2=match yI x with|some cs=>retO (part Tryz.prog 3 cs 2)|none=>none)∧(∀(ps:List (Nat×AV)),build Tryz.prog 281 ps=(xN Tryz.prog [(0,1),(1,1),(2,1)] [.t (.int .u8 (0)),.t (.int .i64 (0)),.t (.int .i64 (0))] ps).map mkAgg)∧(sizeOf? Tryz.prog 281=some 3)∧(agg? Tryz.prog 281=some true)∧(zeroCells Tryz.prog 281=some [.t (.int .u8 (0)),.t (.int .i64 (0)),.t (.int .i64 (0))])∧(zX Tryz.prog 281=zeroCells Tryz.prog 281)∧(∀(n:Nat),small Tryz.prog 281 n=(true&&decide (n<4294967296)&&true))∧(yR Tryz.prog 281=true):=by(repeat' apply And.intro)<;>intros<;>kernel_rfl
theorem zCh:(und Tryz.prog 310=some (.slice 276))∧(sizeOf? Tryz.prog 310=some 1)∧(agg? Tryz.prog 310=some false)∧(zeroCells Tryz.prog 310=some [.t (.sl true true [])])∧(zX Tryz.prog 310=some [.t (.sl true true [])])∧(∀(n:Nat),small Tryz.prog 310 n=(true&&decide (n<4294967296)&&true))∧(yR Tryz.prog 310=true):=by(repeat' apply And.intro)<;>intros<;>kernel_rfl
theorem yCK:(und Tryz.prog 312=some (.map 9 23))∧(sizeOf? Tryz.prog 312=some 1)∧(agg? Tryz.prog 312=some false)∧(zeroCells Tryz.prog 312=some [.t (.nilmap)])∧(zX Tryz.prog 312=some [.t (.nilmap)])∧(∀(n:Nat),small Tryz.prog 312 n=(true&&decide (n<4294967296)&&true))∧(yR Tryz.prog 312=true):=by(repeat' apply And.intro)<;>intros<;>kernel_rfl
theorem yCY:(und Tryz.prog 313=some (.map 9 281))∧(sizeOf? Tryz.prog 313=some 1)∧(agg? Tryz.prog 313=some false)∧(zeroCells Tryz.prog 313=some [.t (.nilmap)])∧(zX Tryz.prog 313=some [.t (.nilmap)])∧(∀(n:Nat),small Tryz.prog 313 n=(true&&decide (n<4294967296)&&true))∧(yR Tryz.prog 313=true):=by(repeat' apply And.intro)<;>intros<;>kernel_rfl
theorem zED:(Tryz.f4.results.toList=[.tmp 8])∧(CC.thaw 4=false):=⟨by kernel_rfl,by kernel_rfl⟩
theorem yEq:(zE 7 2=some [1,2,7,8])∧(Tryz.f7.results.toList=[.tmp 4])∧(CC.thaw 7=false):=⟨by kernel_rfl,by kernel_rfl,by kernel_rfl⟩
theorem zJE:(Tryz.f10.results.toList=[.tmp 2,.cell 3 30,.tmp 4])∧(CC.thaw 10=false):=⟨by kernel_rfl,by kernel_rfl⟩
theorem yDZ:(Tryz.f11.results.toList=[.tmp 6])∧(CC.thaw 11=false):=⟨by kernel_rfl,by kernel_rfl⟩
theorem yDP:(zE 12 4=some [2,4,6,8,9,13,14,15])∧(Tryz.f12.results.toList=[.cell 6 23,.tmp 7])∧(CC.thaw 12=false):=⟨by kernel_rfl,by kernel_rfl,by kernel_rfl⟩
theorem zPE:(zE 20 6=some [1,2,3,4])∧(zE 20 999999999=some [20])∧(Tryz.f20.results.toList=[.cell 2 55,.cell 3 30,.cell 4 31])∧(CC.thaw 20=false):=⟨by kernel_rfl,by kernel_rfl,by kernel_rfl,by kernel_rfl⟩
theorem yDx:(Tryz.f21.results.toList=[.tmp 4,.tmp 5,.tmp 6])∧(CC.thaw 21=false):=⟨by kernel_rfl,by kernel_rfl⟩
theorem zUI:(Tryz.f22.results.toList=[.cell 2 30])∧(CC.thaw 22=false):=⟨by kernel_rfl,by kernel_rfl⟩
theorem yDl:(Tryz.f23.results.toList=[.tmp 4])∧(CC.thaw 23=false):=⟨by kernel_rfl,by kernel_rfl⟩
theorem yD2:(zE 24 3=some [1,3,4,6,8,9,22,23,24])∧(zE 24 9=some [3,4,6,8,9])∧(zE 24 14=some [3,4,6,8,9,12,13,14,61,62])∧(zE 24 30=some [8,18,127,128,129])∧(Tryz.f24.results.toList=[.cell 8 67])∧(CC.thaw 24=false):=⟨by kernel_rfl,by kernel_rfl,by kernel_rfl,by kernel_rfl,by kernel_rfl,by kernel_rfl⟩
theorem yD5:(Tryz.f31.results.toList=[.tmp 4])∧(CC.thaw 31=false):=⟨by kernel_rfl,by kernel_rfl⟩
theorem yDL:(Tryz.f34.results.toList=[.tmp 2])∧(CC.thaw 34=false):=⟨by kernel_rfl,by kernel_rfl⟩
theorem yEe:(Tryz.f35.results.toList=[.cell 2 61,.tmp 3,.tmp 4])∧(CC.thaw 35=false):=⟨by kernel_rfl,by kernel_rfl⟩
theorem yDq:(Tryz.f36.results.toList=[.cell 6 37,.cell 7 3,.cell 8 31])∧(CC.thaw 36=false):=⟨by kernel_rfl,by kernel_rfl⟩
theorem zUJ:(zE 37 3=some [0,3,4])∧(Tryz.f37.results.toList=[.tmp 2])∧(CC.thaw 37=false):=⟨by kernel_rfl,by kernel_rfl,by kernel_rfl⟩
theorem yD6:(zE 38 9=some [1,23,24])∧(Tryz.f38.results.toList=[.tmp 2,.tmp 3])∧(CC.thaw 38=false):=⟨by kernel_rfl,by kernel_rfl,by kernel_rfl⟩
theorem yEa:(zE 39 4=some [0,2,4,6,8,9,20,21,22])∧(zE 39 8=some [0,2,4,6,8,9,10,11,12,20,21,22,28,29,30])∧(Tryz.f39.results.toList=[.cell 6 23,.tmp 7])∧(CC.thaw 39=false):=⟨by kernel_rfl,by kernel_rfl,by kernel_rfl,by kernel_rfl⟩
theorem yDM:(Tryz.f40.results.toList=[.tmp 4])∧(CC.thaw 40=false):=⟨by kernel_rfl,by kernel_rfl⟩
theorem zUl:(Tryz.f41.results.toList=[.cell 8 67])∧(CC.thaw 41=false):=⟨by kernel_rfl,by kernel_rfl⟩
theorem yDB:(zE 42 3=some [2,3,7,8,9])∧(Tryz.f42.results.toList=[.cell 2 23])∧(CC.thaw 42=false):=⟨by kernel_rfl,by kernel_rfl,by kernel_rfl⟩
theorem zUF:(Tryz.f43.results.toList=[.cell 2 67])∧(CC.thaw 43=false):=⟨by kernel_rfl,by kernel_rfl⟩
theorem yDE:(zE 44 3=some [2,3,6,7,8])∧(Tryz.f44.results.toList=[.cell 2 23])∧(CC.thaw 44=false):=⟨by kernel_rfl,by kernel_rfl,by kernel_rfl⟩
theorem yDA:(zE 53 2=some [0,1,7,8])∧(Tryz.f53.results.toList=[.tmp 4])∧(CC.thaw 53=false):=⟨by kernel_rfl,by kernel_rfl,by kernel_rfl⟩
theorem yDY:(zE 66 2=some [0,1,3,4])∧(Tryz.f66.results.toList=[])∧(CC.thaw 66=false):=⟨by kernel_rfl,by kernel_rfl,by kernel_rfl⟩
theorem zUs:(zE 67 2=some [0,1,2,7])∧(Tryz.f67.results.toList=[.tmp 6])∧(CC.thaw 67=false):=⟨by kernel_rfl,by kernel_rfl,by kernel_rfl⟩
theorem yD4:(Tryz.f68.results.toList=[.tmp 2])∧(CC.thaw 68=false):=⟨by kernel_rfl,by kernel_rfl⟩
theorem yDO:(Tryz.f69.results.toList=[.tmp 2,.tmp 3])∧(CC.thaw 69=false):=⟨by kernel_rfl,by kernel_rfl⟩
theorem yDG:(Tryz.f70.results.toList=[.tmp 2])∧(CC.thaw 70=false):=⟨by kernel_rfl,by kernel_rfl⟩
theorem yDK:(Tryz.f71.results.toList=[.tmp 2])∧(CC.thaw 71=false):=⟨by kernel_rfl,by kernel_rfl⟩
theorem yDS:(Tryz.f72.results.toList=[.tmp 2])∧(CC.thaw 72=false):=⟨by kernel_rfl,by kernel_rfl⟩
theorem yDR:(Tryz.f73.results.toList=[.cell 2 61,.tmp 3,.tmp 4])∧(CC.thaw 73=false):=⟨by kernel_rfl,by kernel_rfl⟩
theorem yDX:(Tryz.f74.results.toList=[.cell 2 61,.tmp 3,.tmp 4])∧(CC.thaw 74=false):=⟨by kernel_rfl,by kernel_rfl⟩
theorem yD7:(zE 75 2=some [0,2,7,8])∧(Tryz.f75.results.toList=[.cell 2 61,.tmp 3,.tmp 4])∧(CC.thaw 75=false):=⟨by kernel_rfl,by kernel_rfl,by kernel_rfl⟩
theorem zUO:(Tryz.f76.results.toList=[])∧(CC.thaw 76=false):=⟨by kernel_rfl,by kernel_rfl⟩
theorem zUN:(Tryz.f77.results.toList=[.cell 2 30])∧(CC.thaw 77=false):=⟨by kernel_rfl,by kernel_rfl⟩
theorem zDU:(zE 78 22=some [0,3,106,107])∧(Tryz.f78.results.toList=[.tmp 2])∧(CC.thaw 78=false):=⟨by kernel_rfl,by kernel_rfl,by kernel_rfl⟩
theorem zUQ:(Tryz.f79.results.toList=[.tmp 6])∧(CC.thaw 79=false):=⟨by kernel_rfl,by kernel_rfl⟩
theorem zUD:(Tryz.f80.results.toList=[.tmp 4])∧(CC.thaw 80=false):=⟨by kernel_rfl,by kernel_rfl⟩
theorem yDD:(Tryz.f81.results.toList=[.tmp 4])∧(CC.thaw 81=false):=⟨by kernel_rfl,by kernel_rfl⟩
theorem yEd:(zE 82 8=some [3,6,23,24,25])∧(Tryz.f82.results.toList=[.cell 6 139,.tmp 7])∧(CC.thaw 82=false):=⟨by kernel_rfl,by kernel_rfl,by kernel_rfl⟩
theorem yEi:(Tryz.f83.results.toList=[.cell 4 139,.tmp 5])∧(CC.thaw 83=false):=⟨by kernel_rfl,by kernel_rfl⟩
theorem yDo:(Tryz.f84.results.toList=[.cell 4 139])∧(CC.thaw 84=false):=⟨by kernel_rfl,by kernel_rfl⟩
theorem zUG:(Tryz.f85.results.toList=[.tmp 2])∧(CC.thaw 85=true):=⟨by kernel_rfl,by kernel_rfl⟩
theorem zUM:(Tryz.f86.results.toList=[.cell 2 67])∧(CC.thaw 86=false):=⟨by kernel_rfl,by kernel_rfl⟩
theorem zPK:(Tryz.f87.results.toList=[.cell 2 23])∧(CC.thaw 87=false):=⟨by kernel_rfl,by kernel_rfl⟩
theorem zUm:(Tryz.f88.results.toList=[.cell 2 23])∧(CC.thaw 88=false):=⟨by kernel_rfl,by kernel_rfl⟩
theorem zDH:(Tryz.f105.results.toList=[.cell 2 23,.tmp 3])∧(CC.thaw 105=false):=⟨by kernel_rfl,by kernel_rfl⟩
theorem yBU:(Tryz.f106.results.toList=[.tmp 3])∧(CC.thaw 106=false):=⟨by kernel_rfl,by kernel_rfl⟩
theorem zR2:(Tryz.f107.results.toList=[.tmp 4])∧(CC.thaw 107=false):=⟨by kernel_rfl,by kernel_rfl⟩
theorem zX2:(Tryz.f109.results.toList=[.tmp 2])∧(CC.thaw 109=false):=⟨by kernel_rfl,by kernel_rfl⟩
theorem zY4:(Tryz.f110.results.toList=[])∧(CC.thaw 110=false):=⟨by kernel_rfl,by kernel_rfl⟩
theorem zP7:(Tryz.f111.results.toList=[.tmp 4])∧(CC.thaw 111=false):=⟨by kernel_rfl,by kernel_rfl⟩
theorem zQO:(Tryz.f112.results.toList=[.tmp 2])∧(CC.thaw 112=false):=⟨by kernel_rfl,by kernel_rfl⟩
theorem zSK:(Tryz.f113.results.toList=[.tmp 2])∧(CC.thaw 113=false):=⟨by kernel_rfl,by kernel_rfl⟩
theorem yB3:(Tryz.f114.results.toList=[.cell 2 139])∧(CC.thaw 114=false):=⟨by kernel_rfl,by kernel_rfl⟩
theorem zQL:(Tryz.f115.results.toList=[.cell 2 139])∧(CC.thaw 115=false):=⟨by kernel_rfl,by kernel_rfl⟩
theorem zY5:(Tryz.f116.results.toList=[.cell 6 139])∧(CC.thaw 116=false):=⟨by kernel_rfl,by kernel_rfl⟩
theorem yAy:(Tryz.f117.results.toList=[.cell 4 139])∧(CC.thaw 117=false):=⟨by kernel_rfl,by kernel_rfl⟩
theorem yCX:(Tryz.f118.results.toList=[.cell 4 139])∧(CC.thaw 118=false):=⟨by kernel_rfl,by kernel_rfl⟩
theorem yDa:(Tryz.f119.results.toList=[.cell 4 139])∧(CC.thaw 119=false):=⟨by kernel_rfl,by kernel_rfl⟩
theorem zZG:(Tryz.f120.results.toList=[.tmp 2])∧(CC.thaw 120=false):=⟨by kernel_rfl,by kernel_rfl⟩
theorem zXM:(Tryz.f121.results.toList=[.tmp 2])∧(CC.thaw 121=false):=⟨by kernel_rfl,by kernel_rfl⟩
theorem yAR:(Tryz.f122.results.toList=[.tmp 2])∧(CC.thaw 122=false):=⟨by kernel_rfl,by kernel_rfl⟩
theorem yAL:(Tryz.f123.results.toList=[.tmp 2])∧(CC.thaw 123=false):=⟨by kernel_rfl,by kernel_rfl⟩
theorem zZH:(Tryz.f124.results.toList=[.cell 8 139])∧(CC.thaw 124=false):=⟨by kernel_rfl,by kernel_rfl⟩
theorem zZk:(Tryz.f125.results.toList=[.cell 2 139])∧(CC.thaw 125=false):=⟨by kernel_rfl,by kernel_rfl⟩
theorem yBl:(Tryz.f127.results.toList=[.cell 2 139])∧(CC.thaw 127=false):=⟨by kernel_rfl,by kernel_rfl⟩
theorem zZA:(Tryz.f128.results.toList=[.cell 4 139])∧(CC.thaw 128=false):=⟨by kernel_rfl,by kernel_rfl⟩
theorem zZc:(Tryz.f129.results.toList=[.cell 4 23,.tmp 5])∧(CC.thaw 129=false):=⟨by kernel_rfl,by kernel_rfl⟩
theorem yBS:(Tryz.f130.results.toList=[.cell 4 23,.tmp 5])∧(CC.thaw 130=false):=⟨by kernel_rfl,by kernel_rfl⟩
theorem yBF:(Tryz.f131.results.toList=[.cell 4 23,.tmp 5])∧(CC.thaw 131=false):=⟨by kernel_rfl,by kernel_rfl⟩
theorem zXY:(Tryz.f132.results.toList=[.cell 4 23,.tmp 5])∧(CC.thaw 132=false):=⟨by kernel_rfl,by kernel_rfl⟩
theorem zJj:(zE 133 3=some [2,3,6,7,10,11])∧(Tryz.f133.results.toList=[.cell 6 139])∧(CC.thaw 133=false):=⟨by kernel_rfl,by kernel_rfl,by kernel_rfl⟩
theorem yBH:(Tryz.f134.results.toList=[.cell 2 139])∧(CC.thaw 134=false):=⟨by kernel_rfl,by kernel_rfl⟩
theorem yBP:(Tryz.f135.results.toList=[.cell 4 139])∧(CC.thaw 135=false):=⟨by kernel_rfl,by kernel_rfl⟩
theorem yBf:(Tryz.f136.results.toList=[.cell 2 23,.tmp 3])∧(CC.thaw 136=false):=⟨by kernel_rfl,by kernel_rfl⟩
theorem zZS:(Tryz.f137.results.toList=[.cell 2 139])∧(CC.thaw 137=false):=⟨by kernel_rfl,by kernel_rfl⟩
theorem yAf:(Tryz.f138.results.toList=[.cell 2 23,.tmp 3])∧(CC.thaw 138=false):=⟨by kernel_rfl,by kernel_rfl⟩
theorem zXI:(Tryz.f139.results.toList=[.cell 2 139])∧(CC.thaw 139=false):=⟨by kernel_rfl,by kernel_rfl⟩
theorem zZX:(Tryz.f140.results.toList=[.cell 2 23,.tmp 3])∧(CC.thaw 140=false):=⟨by kernel_rfl,by kernel_rfl⟩
theorem zYQ:(Tryz.f141.results.toList=[.cell 2 139])∧(CC.thaw 141=false):=⟨by kernel_rfl,by kernel_rfl⟩
theorem zYn:(Tryz.f142.results.toList=[.cell 2 139])∧(CC.thaw 142=false):=⟨by kernel_rfl,by kernel_rfl⟩
theorem yAN:(Tryz.f143.results.toList=[.cell 2 139])∧(CC.thaw 143=false):=⟨by kernel_rfl,by kernel_rfl⟩
theorem yC6:(Tryz.f144.results.toList=[.cell 2 23])∧(CC.thaw 144=false):=⟨by kernel_rfl,by kernel_rfl⟩
theorem yCd:(zE 145 3=some [2,3,11,12,13])∧(Tryz.f145.results.toList=[.cell 2 139])∧(CC.thaw 145=false):=⟨by kernel_rfl,by kernel_rfl,by kernel_rfl⟩
theorem yAt:(Tryz.f146.results.toList=[.cell 2 139])∧(CC.thaw 146=false):=⟨by kernel_rfl,by kernel_rfl⟩
theorem yBu:(Tryz.f148.results.toList=[.cell 4 28,.cell 5 3,.cell 6 31])∧(CC.thaw 148=false):=⟨by kernel_rfl,by kernel_rfl⟩
theorem zCF:(Tryz.f159.results.toList=[.cell 2 23,.tmp 3])∧(CC.thaw 159=false):=⟨by kernel_rfl,by kernel_rfl⟩
theorem yAw:(Tryz.f160.results.toList=[.tmp 2])∧(CC.thaw 160=false):=⟨by kernel_rfl,by kernel_rfl⟩
theorem zSd:(Tryz.f161.results.toList=[.tmp 4])∧(CC.thaw 161=false):=⟨by kernel_rfl,by kernel_rfl⟩
theorem zZM:(Tryz.f163.results.toList=[.tmp 2])∧(CC.thaw 163=false):=⟨by kernel_rfl,by kernel_rfl⟩
theorem zYB:(Tryz.f164.results.toList=[.cell 4 139])∧(CC.thaw 164=false):=⟨by kernel_rfl,by kernel_rfl⟩
theorem yBt:(Tryz.f165.results.toList=[.cell 4 139])∧(CC.thaw 165=false):=⟨by kernel_rfl,by kernel_rfl⟩
theorem zZt:(Tryz.f166.results.toList=[.tmp 4,.tmp 5])∧(CC.thaw 166=false):=⟨by kernel_rfl,by kernel_rfl⟩
theorem yBJ:(Tryz.f167.results.toList=[.tmp 3])∧(CC.thaw 167=false):=⟨by kernel_rfl,by kernel_rfl⟩
theorem yBg:(zE 168 2=some [5,6,7])∧(Tryz.f168.results.toList=[.tmp 2])∧(CC.thaw 168=false):=⟨by kernel_rfl,by kernel_rfl,by kernel_rfl⟩
theorem zX8:(Tryz.f169.results.toList=[.cell 3 139])∧(CC.thaw 169=false):=⟨by kernel_rfl,by kernel_rfl⟩
theorem yB8:(zE 170 2=some [0,1,9,10,11])∧(Tryz.f170.results.toList=[.tmp 6])∧(CC.thaw 170=false):=⟨by kernel_rfl,by kernel_rfl,by kernel_rfl⟩
theorem yCs:(Tryz.f171.results.toList=[.cell 4 139])∧(CC.thaw 171=false):=⟨by kernel_rfl,by kernel_rfl⟩
theorem zYG:(Tryz.f173.results.toList=[.cell 3 139])∧(CC.thaw 173=false):=⟨by kernel_rfl,by kernel_rfl⟩
theorem yBy:(Tryz.f174.results.toList=[.cell 8 23,.tmp 9])∧(CC.thaw 174=false):=⟨by kernel_rfl,by kernel_rfl⟩
theorem zYx:(Tryz.f175.results.toList=[.tmp 4,.tmp 5])∧(CC.thaw 175=false):=⟨by kernel_rfl,by kernel_rfl⟩
theorem zZ6:(Tryz.f176.results.toList=[.tmp 4,.tmp 5])∧(CC.thaw 176=false):=⟨by kernel_rfl,by kernel_rfl⟩
theorem yCP:(Tryz.f177.results.toList=[.tmp 4,.tmp 5])∧(CC.thaw 177=false):=⟨by kernel_rfl,by kernel_rfl⟩
theorem zZV:(Tryz.f178.results.toList=[.tmp 4,.tmp 5])∧(CC.thaw 178=false):=⟨by kernel_rfl,by kernel_rfl⟩
theorem zYA:(Tryz.f179.results.toList=[.tmp 4,.tmp 5])∧(CC.thaw 179=false):=⟨by kernel_rfl,by kernel_rfl⟩
theorem yAQ:(Tryz.f180.results.toList=[.tmp 4,.tmp 5])∧(CC.thaw 180=false):=⟨by kernel_rfl,by kernel_rfl⟩
theorem zXJ:(zE 181 6=some [0,4,9,33,34,35])∧(Tryz.f181.results.toList=[.cell 4 23,.tmp 5])∧(CC.thaw 181=false):=⟨by kernel_rfl,by kernel_rfl,by kernel_rfl⟩
theorem yAF:(Tryz.f182.results.toList=[.tmp 4,.tmp 5])∧(CC.thaw 182=false):=⟨by kernel_rfl,by kernel_rfl⟩
theorem zR1:(Tryz.f185.results.toList=[])∧(CC.thaw 185=false):=⟨by kernel_rfl,by kernel_rfl⟩
theorem zZK:(Tryz.f186.results.toList=[.tmp 4])∧(CC.thaw 186=false):=⟨by kernel_rfl,by kernel_rfl⟩
theorem zY1:(Tryz.f195.results.toList=[.cell 2 23,.tmp 3])∧(CC.thaw 195=false):=⟨by kernel_rfl,by kernel_rfl⟩
theorem zZ7:(Tryz.f197.results.toList=[.cell 2 23,.tmp 3])∧(CC.thaw 197=false):=⟨by kernel_rfl,by kernel_rfl⟩
theorem zYe:(Tryz.f199.results.toList=[.tmp 4])∧(CC.thaw 199=false):=⟨by kernel_rfl,by kernel_rfl⟩
theorem zP6:(Tryz.f200.results.toList=[.tmp 2])∧(CC.thaw 200=false):=⟨by kernel_rfl,by kernel_rfl⟩
theorem yBW:(zE 203 5=some [3,4])∧(Tryz.f203.results.toList=[.tmp 2])∧(CC.thaw 203=false):=⟨by kernel_rfl,by kernel_rfl,by kernel_rfl⟩
theorem zYI:(Tryz.f204.results.toList=[.tmp 2])∧(CC.thaw 204=false):=⟨by kernel_rfl,by kernel_rfl⟩
theorem yBB:(Tryz.f205.results.toList=[.tmp 2])∧(CC.thaw 205=false):=⟨by kernel_rfl,by kernel_rfl⟩
theorem zYE:(Tryz.f207.results.toList=[.tmp 2])∧(CC.thaw 207=false):=⟨by kernel_rfl,by kernel_rfl⟩
theorem yCi:(Tryz.f208.results.toList=[.tmp 2])∧(CC.thaw 208=false):=⟨by kernel_rfl,by kernel_rfl⟩
theorem zYK:(Tryz.f209.results.toList=[.tmp 2])∧(CC.thaw 209=false):=⟨by kernel_rfl,by kernel_rfl⟩
theorem yCR:(Tryz.f210.results.toList=[.tmp 2,.tmp 3,.tmp 4])∧(CC.thaw 210=false):=⟨by kernel_rfl,by kernel_rfl⟩
theorem zZb:(zE 211 3=some [3,6,7,8])∧(Tryz.f211.results.toList=[.tmp 2])∧(CC.thaw 211=false):=⟨by kernel_rfl,by kernel_rfl,by kernel_rfl⟩
theorem zZ0:(Tryz.f212.results.toList=[.tmp 4])∧(CC.thaw 212=false):=⟨by kernel_rfl,by kernel_rfl⟩
theorem yCu:(Tryz.f213.results.toList=[.tmp 4])∧(CC.thaw 213=false):=⟨by kernel_rfl,by kernel_rfl⟩
theorem yBR:(zE 215 3=some [0,2,3,5,10,11,12])∧(zE 215 13=some [2,5,36,37,38])∧(Tryz.f215.results.toList=[.tmp 2,.tmp 3,.tmp 4])∧(CC.thaw 215=false):=⟨by kernel_rfl,by kernel_rfl,by kernel_rfl,by kernel_rfl⟩
theorem yAD:(Tryz.f216.results.toList=[.cell 5 23,.tmp 6])∧(CC.thaw 216=false):=⟨by kernel_rfl,by kernel_rfl⟩
theorem yAS:(Tryz.f217.results.toList=[.tmp 4,.tmp 5])∧(CC.thaw 217=false):=⟨by kernel_rfl,by kernel_rfl⟩
theorem yCy:(Tryz.f218.results.toList=[.tmp 2])∧(CC.thaw 218=false):=⟨by kernel_rfl,by kernel_rfl⟩
theorem zXO:(Tryz.f219.results.toList=[.tmp 6,.tmp 7])∧(CC.thaw 219=false):=⟨by kernel_rfl,by kernel_rfl⟩
theorem yCB:(Tryz.f220.results.toList=[.tmp 6,.tmp 7])∧(CC.thaw 220=false):=⟨by kernel_rfl,by kernel_rfl⟩
theorem yCr:(Tryz.f221.results.toList=[.tmp 4])∧(CC.thaw 221=false):=⟨by kernel_rfl,by kernel_rfl⟩
theorem yBa:(Tryz.f223.results.toList=[.tmp 2])∧(CC.thaw 223=false):=⟨by kernel_rfl,by kernel_rfl⟩
theorem zXL:(Tryz.f224.results.toList=[.tmp 2])∧(CC.thaw 224=false):=⟨by kernel_rfl,by kernel_rfl⟩
theorem yBo:(Tryz.f225.results.toList=[.tmp 2])∧(CC.thaw 225=false):=⟨by kernel_rfl,by kernel_rfl⟩
theorem zYW:(Tryz.f226.results.toList=[.tmp 2])∧(CC.thaw 226=false):=⟨by kernel_rfl,by kernel_rfl⟩
theorem zZo:(Tryz.f227.results.toList=[.tmp 2])∧(CC.thaw 227=false):=⟨by kernel_rfl,by kernel_rfl⟩
theorem zY2:(Tryz.f228.results.toList=[.tmp 2])∧(CC.thaw 228=false):=⟨by kernel_rfl,by kernel_rfl⟩
theorem yAV:(Tryz.f229.results.toList=[.tmp 2])∧(CC.thaw 229=false):=⟨by kernel_rfl,by kernel_rfl⟩
theorem zAG:(Tryz.f230.results.toList=[.tmp 2])∧(CC.thaw 230=false):=⟨by kernel_rfl,by kernel_rfl⟩
theorem zSr:(Tryz.f233.results.toList=[.tmp 4])∧(CC.thaw 233=false):=⟨by kernel_rfl,by kernel_rfl⟩
theorem zNf:(Tryz.f234.results.toList=[.tmp 4])∧(CC.thaw 234=false):=⟨by kernel_rfl,by kernel_rfl⟩
theorem zXU:(Tryz.f235.results.toList=[.tmp 2])∧(CC.thaw 235=false):=⟨by kernel_rfl,by kernel_rfl⟩
theorem zYZ:(Tryz.f241.results.toList=[.tmp 2])∧(CC.thaw 241=false):=⟨by kernel_rfl,by kernel_rfl⟩
theorem zYy:(Tryz.f242.results.toList=[.tmp 2])∧(CC.thaw 242=false):=⟨by kernel_rfl,by kernel_rfl⟩
theorem zY7:(Tryz.f243.results.toList=[.tmp 2])∧(CC.thaw 243=false):=⟨by kernel_rfl,by kernel_rfl⟩
theorem zZm:(Tryz.f244.results.toList=[.tmp 2])∧(CC.thaw 244=false):=⟨by kernel_rfl,by kernel_rfl⟩
theorem yBi:(Tryz.f245.results.toList=[.tmp 4])∧(CC.thaw 245=false):=⟨by kernel_rfl,by kernel_rfl⟩
theorem zZN:(Tryz.f246.results.toList=[.tmp 4])∧(CC.thaw 246=false):=⟨by kernel_rfl,by kernel_rfl⟩
theorem zY9:(Tryz.f250.results.toList=[.cell 2 23,.tmp 3])∧(CC.thaw 250=false):=⟨by kernel_rfl,by kernel_rfl⟩
theorem yAY:(Tryz.f251.results.toList=[.tmp 7,.tmp 8])∧(CC.thaw 251=false):=⟨by kernel_rfl,by kernel_rfl⟩
theorem yCv:(zE 252 17=some [2,8,9,10,11,13,14,15,16])∧(zE 252 24=some [2,8,9,10,14,15,16,17,18])∧(Tryz.f252.results.toList=[.tmp 6,.tmp 7])∧(CC.thaw 252=false):=⟨by kernel_rfl,by kernel_rfl,by kernel_rfl,by kernel_rfl⟩
theorem zY6:(Tryz.f253.results.toList=[.tmp 2])∧(CC.thaw 253=false):=⟨by kernel_rfl,by kernel_rfl⟩
theorem zSj:(zE 254 2=some [0,1,2,3,9])∧(Tryz.f254.results.toList=[.tmp 8])∧(CC.thaw 254=false):=⟨by kernel_rfl,by kernel_rfl,by kernel_rfl⟩
theorem zJQ:(Tryz.f255.results.toList=[.tmp 8])∧(CC.thaw 255=false):=⟨by kernel_rfl,by kernel_rfl⟩
theorem zYO:(Tryz.f256.results.toList=[.cell 2 23,.tmp 3])∧(CC.thaw 256=false):=⟨by kernel_rfl,by kernel_rfl⟩
theorem yC7:(Tryz.f257.results.toList=[.cell 2 281,.tmp 3])∧(CC.thaw 257=false):=⟨by kernel_rfl,by kernel_rfl⟩
theorem zMK:(zE 258 6=some [0,4,5,7])∧(Tryz.f258.results.toList=[.tmp 6])∧(CC.thaw 258=false):=⟨by kernel_rfl,by kernel_rfl,by kernel_rfl⟩
theorem zKk:(Tryz.f259.results.toList=[.tmp 4])∧(CC.thaw 259=false):=⟨by kernel_rfl,by kernel_rfl⟩
theorem zJS:(Tryz.f260.results.toList=[])∧(CC.thaw 260=false):=⟨by kernel_rfl,by kernel_rfl⟩
theorem zJL:(Tryz.f261.results.toList=[])∧(CC.thaw 261=false):=⟨by kernel_rfl,by kernel_rfl⟩
theorem zQR:(Tryz.f262.results.toList=[.tmp 6])∧(CC.thaw 262=false):=⟨by kernel_rfl,by kernel_rfl⟩
theorem zNr:(Tryz.f263.results.toList=[.tmp 4])∧(CC.thaw 263=false):=⟨by kernel_rfl,by kernel_rfl⟩
theorem zZw:(Tryz.f278.results.toList=[.tmp 2])∧(CC.thaw 278=false):=⟨by kernel_rfl,by kernel_rfl⟩
theorem zX6:(Tryz.f279.results.toList=[.tmp 2])∧(CC.thaw 279=false):=⟨by kernel_rfl,by kernel_rfl⟩
theorem zZf:(Tryz.f281.results.toList=[.tmp 2,.tmp 3])∧(CC.thaw 281=false):=⟨by kernel_rfl,by kernel_rfl⟩
theorem zXZ:(Tryz.f282.results.toList=[.tmp 2])∧(CC.thaw 282=false):=⟨by kernel_rfl,by kernel_rfl⟩
theorem zJe:(Tryz.f283.results.toList=[.cell 2 30])∧(CC.thaw 283=false):=⟨by kernel_rfl,by kernel_rfl⟩
theorem zSf:(zE 284 2=some [0,7,8,9])∧(Tryz.f284.results.toList=[.tmp 4])∧(CC.thaw 284=false):=⟨by kernel_rfl,by kernel_rfl,by kernel_rfl⟩
theorem yAM:(zE 285 2=some [1,2,10])∧(Tryz.f285.results.toList=[.tmp 6])∧(CC.thaw 285=false):=⟨by kernel_rfl,by kernel_rfl,by kernel_rfl⟩
theorem zYV:(Tryz.f292.results.toList=[.tmp 2])∧(CC.thaw 292=false):=⟨by kernel_rfl,by kernel_rfl⟩
end Go.Ab
