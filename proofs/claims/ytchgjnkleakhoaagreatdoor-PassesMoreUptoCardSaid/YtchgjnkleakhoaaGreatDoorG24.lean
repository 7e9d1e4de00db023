/- Lemmas. -/
import Derived.Test.YtchgjnkleakhoaaGreatDoorG03
set_option maxRecDepth 1000000
set_option maxHeartbeats 40000000
set_option linter.all false
namespace Go.Ab
open Go.Proofs
def Nq(o k n l c:Int):List Tree:=[.int .u8 o,.int .u8 k,.int .i64 n,.str [],.str [],.sl true true [],.int .i64 l,.int .i64 c]
def Wq(o:Int)(s:List Nat)(k n l c:Int):List Tree:=[.int .u8 o,.str s,.int .u8 k,.int .i64 n,.str [],.int .i64 l,.int .i64 c]
def R1q:List Tree:=[.int .u8 2,.sl false false [[.int .u8 2,.int .u8 0,.int .i64 0,.str [],.str [110],.sl true true [],.int .i64 1,.int .i64 18]],.sl true true [],.bool false,.bool false,.sl true true [],.int .i64 1,.int .i64 18]
def R2q:List Tree:=[.int .u8 5,.sl false false [[.int .u8 2,.int .u8 0,.int .i64 0,.str [],.str [110],.sl true true [],.int .i64 1,.int .i64 27]],.sl true true [],.bool false,.bool false,.sl true true [],.int .i64 1,.int .i64 25]
def R3q:List Tree:=[.int .u8 2,.sl false false [[.int .u8 2,.int .u8 0,.int .i64 0,.str [],.str [110],.sl true true [],.int .i64 1,.int .i64 25]],.sl true true [],.bool false,.bool false,.sl true true [],.int .i64 1,.int .i64 25]
def R4q:List Tree:=Wq 1 [114,117,108,101] 0 0 1 1
def R5q:List Tree:=Wq 1 [119,104,101,110] 0 0 1 8
def R6q:List Tree:=Wq 1 [120] 0 0 1 15
def R7q:List Tree:=Wq 2 [110] 0 0 1 18
def R8q:List Tree:=Wq 1 [121] 0 0 1 22
def R9q:List Tree:=Wq 1 [114] 0 0 1 6
def R10q:List Tree:=Wq 1 [97] 0 0 1 13
def R11q:List Tree:=Wq 7 [40] 0 0 1 14
def R12q:List Tree:=Wq 7 [58] 0 0 1 16
def R13q:List Tree:=Wq 7 [44] 0 0 1 20
def R14q:List Tree:=Wq 7 [58] 0 0 1 23
def D15q:Tree:=.sl false false [[.str [97],.sl false false [[.str [120],.int .u8 1],[.str [121],.int .u8 1]]]]
def E16q:Tree:=.agg [.str [],.str [97],.sl false false [[.str [120],.sl false false [R1q],.int .i64 1,.int .i64 15],[.str [121],.sl false false [R2q],.int .i64 1,.int .i64 22]],.int .i64 1,.int .i64 13]
def E17q:Tree:=.agg [.str [],.str [97],.sl false false [[.str [120],.sl false false [R1q],.int .i64 1,.int .i64 15],[.str [121],.sl false false [R3q],.int .i64 1,.int .i64 22]],.int .i64 1,.int .i64 13]
def E18q:Tree:=.agg [.str [],.str [97],.sl false false [[.str [120],.sl false false [R1q],.int .i64 1,.int .i64 15]],.int .i64 1,.int .i64 13]
def E19q:Tree:=.agg [.int .i64 1,.int .i64 0,.sl false false [[.int .u8 1,.int .i64 1,.str []],[.int .u8 1,.int .i64 2,.str []]]]
def L_0:List Known:=[]
def hK{e:Known}{l:List Known}(hl:Holds CC l)(h:zI6 CC (look l) 2000 e.f e.args []=some (e.r,[])):Holds CC (e::l):=hl.cons h
def H_0:Holds CC L_0:=Holds.nil
def L_1:List Known:=⟨30,[.t (.str [114,117,108,101,32,114,32,119,104,101,110,32,97,40,120,58,32,63,110,44,32,121,58,32,62,32,63,110,41,32,116,104,101,110,32,101,110,100])],.val (.tup [.t (.sl false false [R4q,R9q,R5q,R10q,R11q,R6q,R12q,R7q,R13q,R8q,R14q,Wq 7 [62] 0 0 1 25,Wq 2 [110] 0 0 1 27,Wq 7 [41] 0 0 1 29,Wq 1 [116,104,101,110] 0 0 1 31,Wq 1 [101,110,100] 0 0 1 36]),.t (.agg [.int .i64 0,.int .i64 0]),.t (.int .i64 0)])⟩::L_0
def H_1:Holds CC L_1:=hK H_0 (by kernel_rfl)
def L_2:List Known:=⟨12,[.t (.str [97,40,120,58,32,63,110,44,32,121,58,32,62,32,63,110,41])],.val (.t E16q)⟩::L_1
def H_2:Holds CC L_2:=hK H_1 (by kernel_rfl)
def L_3:List Known:=⟨7,[.t D15q,.t E16q,.t E19q,.t (.sl true true [])],.val (.tup [.t (.sl false false [[.str [110],.int .u8 1,.int .i64 1,.str []]]),.t (.bool true)])⟩::L_2
def H_3:Holds CC L_3:=hK H_2 (by kernel_rfl)
def L_4:List Known:=⟨30,[.t (.str [114,117,108,101,32,114,32,119,104,101,110,32,97,40,120,58,32,63,110,44,32,121,58,32,63,110,41,32,116,104,101,110,32,101,110,100])],.val (.tup [.t (.sl false false [R4q,R9q,R5q,R10q,R11q,R6q,R12q,R7q,R13q,R8q,R14q,Wq 2 [110] 0 0 1 25,Wq 7 [41] 0 0 1 27,Wq 1 [116,104,101,110] 0 0 1 29,Wq 1 [101,110,100] 0 0 1 34]),.t (.agg [.int .i64 0,.int .i64 0]),.t (.int .i64 0)])⟩::L_3
def H_4:Holds CC L_4:=hK H_3 (by kernel_rfl)
def L_5:List Known:=⟨12,[.t (.str [97,40,120,58,32,63,110,44,32,121,58,32,63,110,41])],.val (.t E17q)⟩::L_4
def H_5:Holds CC L_5:=hK H_4 (by kernel_rfl)
def L_6:List Known:=⟨7,[.t D15q,.t E17q,.t E19q,.t (.sl true true [])],.val (.tup [.t (.sl true true []),.t (.bool false)])⟩::L_5
def H_6:Holds CC L_6:=hK H_5 (by kernel_rfl)
def L_7:List Known:=⟨30,[.t (.str [114,117,108,101,32,114,32,119,104,101,110,32,97,40,120,58,32,63,110,41,32,116,104,101,110,32,101,110,100])],.val (.tup [.t (.sl false false [R4q,R9q,R5q,R10q,R11q,R6q,R12q,R7q,Wq 7 [41] 0 0 1 20,Wq 1 [116,104,101,110] 0 0 1 22,Wq 1 [101,110,100] 0 0 1 27]),.t (.agg [.int .i64 0,.int .i64 0]),.t (.int .i64 0)])⟩::L_6
def H_7:Holds CC L_7:=hK H_6 (by kernel_rfl)
def L_8:List Known:=⟨12,[.t (.str [97,40,120,58,32,63,110,41])],.val (.t E18q)⟩::L_7
def H_8:Holds CC L_8:=hK H_7 (by kernel_rfl)
def L_9:List Known:=⟨7,[.t D15q,.t E18q,.t E19q,.t (.sl false false [[.str [110],.int .u8 1,.int .i64 2,.str []]])],.val (.tup [.t (.sl true true []),.t (.bool false)])⟩::L_8
def H_9:Holds CC L_9:=hK H_8 (by kernel_rfl)
def zZs:Om CC 6 [] []=some (.val (.t (.bool true)),[]):=zGh (zMh H_9) (n:=2000) (by kernel_rfl)
end Go.Ab
