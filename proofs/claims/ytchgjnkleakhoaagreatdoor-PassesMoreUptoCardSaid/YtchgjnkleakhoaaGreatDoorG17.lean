/- Lemmas. -/
import Derived.Test.YtchgjnkleakhoaaGreatDoorG03
import Derived.Lib.RuneCount
set_option maxRecDepth 1000000
set_option maxHeartbeats 40000000
set_option linter.all false
namespace Go.Ab
open Go.Proofs
def zIJ(d:Nat)(v w:Val):equal Tryz.prog (d+1+1) 49 (.agg v.c) (.agg w.c)=some (decide (v=w)):=by
 simp only[Val.c,zUZ,zEJ,zEc,zSp,zSh,zNS,nth,zLr _ _ _ _ _ _ zSk,zLr _ _ _ _ _ _ zR3,zPh _ _ _ _ _ zEg,zRA,Bool.and_true]
 congr 1
 obtain⟨k,n,s⟩:=v;obtain⟨k',n',s'⟩:=w;simp only[vC,Val.mk.injEq]
 by_cases h1:k=k'<;>by_cases h2:n=n'<;>by_cases h3:s=s'<;>simp [h1,h2,h3]
def zFB:Om CC 62 [] []=some (.val (.t (.agg [.str [61],.int .u8 2,.int .u8 7,.str [60],.int .u8 3,.int .u8 9,.str [60,61],.int .u8 4,.int .u8 10,.str [62],.int .u8 5,.int .u8 11,.str [62,61],.int .u8 6,.int .u8 12])),[]):=jR (n:=20) (by kernel_rfl)
def sgn0:index Tryz.prog 150 (.t (.agg [.str [61],.int .u8 2,.int .u8 7,.str [60],.int .u8 3,.int .u8 9,.str [60,61],.int .u8 4,.int .u8 10,.str [62],.int .u8 5,.int .u8 11,.str [62,61],.int .u8 6,.int .u8 12])) 0=some (.t (.agg [.str [61],.int .u8 2,.int .u8 7])):=by kernel_rfl
def sgn1:index Tryz.prog 150 (.t (.agg [.str [61],.int .u8 2,.int .u8 7,.str [60],.int .u8 3,.int .u8 9,.str [60,61],.int .u8 4,.int .u8 10,.str [62],.int .u8 5,.int .u8 11,.str [62,61],.int .u8 6,.int .u8 12])) 1=some (.t (.agg [.str [60],.int .u8 3,.int .u8 9])):=by kernel_rfl
def sgn2:index Tryz.prog 150 (.t (.agg [.str [61],.int .u8 2,.int .u8 7,.str [60],.int .u8 3,.int .u8 9,.str [60,61],.int .u8 4,.int .u8 10,.str [62],.int .u8 5,.int .u8 11,.str [62,61],.int .u8 6,.int .u8 12])) 2=some (.t (.agg [.str [60,61],.int .u8 4,.int .u8 10])):=by kernel_rfl
def sgn3:index Tryz.prog 150 (.t (.agg [.str [61],.int .u8 2,.int .u8 7,.str [60],.int .u8 3,.int .u8 9,.str [60,61],.int .u8 4,.int .u8 10,.str [62],.int .u8 5,.int .u8 11,.str [62,61],.int .u8 6,.int .u8 12])) 3=some (.t (.agg [.str [62],.int .u8 5,.int .u8 11])):=by kernel_rfl
def sgn4:index Tryz.prog 150 (.t (.agg [.str [61],.int .u8 2,.int .u8 7,.str [60],.int .u8 3,.int .u8 9,.str [60,61],.int .u8 4,.int .u8 10,.str [62],.int .u8 5,.int .u8 11,.str [62,61],.int .u8 6,.int .u8 12])) 4=some (.t (.agg [.str [62,61],.int .u8 6,.int .u8 12])):=by kernel_rfl
attribute [local irreducible] W RW RR
def zHe(n:Int):∃u:Int,Om CC 233 [.t (.int .i64 n)] []=some (.val (.t (.int .u64 u)),[])∧U64 u∧(R64 n→n≠0→u≠0):=by
 refine zJ yBc rfl ?_
 (have F_:=c3 zF kJ yFQ;show W CC 0 10 (zA 233) _ ⟨[(0,_)],[]⟩ _)
 (repeat' first|refine gA ?_|refine gT ?_ ?_<;>intro hv|fail)
 ·(refine aJ ?_)
  refine⟨_,⟨rfl,rfl⟩,zA8 _,fun h h0=>?_⟩;simp only[zBC,R64] at *;omega
 (refine aJ ?_)
 refine⟨_,⟨rfl,rfl⟩,zA8 _,fun h h0=>?_⟩;simp only[zBC,R64] at *;omega
noncomputable def Size(n:Int):Int:=(zHe n).choose
def zHp(n:Int):Om CC 233 [.t (.int .i64 n)] []=some (.val (.t (.int .u64 (Size n))),[]):=(zHe n).choose_spec.1
def yEO(n:Int):U64 (Size n):=(zHe n).choose_spec.2.1
def zQg{n:Int}(h:R64 n)(h0:n≠0):Size n≠0:=(zHe n).choose_spec.2.2 h h0
def zHo(neg:Bool)(hi:Int)(lo:Int):∃x:Int×Int,Om CC 234 [.t (.bool neg),.t (.int .u64 hi),.t (.int .u64 lo)] []=some (.val (.tup [.t (.int .i64 x.1),.t (.int .i64 x.2)]),[])∧R64 x.1:=by
 refine zJ zYX rfl ?_
 (have F_:=c3 zF zQ (c2 kJ yFs);show W CC 0 30 (zA 234) _ ⟨[(0,_),(1,_),(2,_)],[]⟩ _)
 (repeat' first|refine gA ?_|refine gT ?_ ?_<;>intro hv|fail)
 all_goals refine aJ ?_<;>exact⟨(_,_),⟨rfl,rfl⟩,by first|exact zHb _|(simp only[R64];decide)⟩
noncomputable def zOs(neg:Bool)(hi:Int)(lo:Int):Int×Int:=(zHo neg hi lo).choose
def zFW(neg:Bool)(hi:Int)(lo:Int):Om CC 234 [.t (.bool neg),.t (.int .u64 hi),.t (.int .u64 lo)] []=some (.val (.tup [.t (.int .i64 (zOs neg hi lo).1),.t (.int .i64 (zOs neg hi lo).2)]),[]):=(zHo neg hi lo).choose_spec.1
def zDR(neg:Bool)(hi:Int)(lo:Int):R64 (zOs neg hi lo).1:=(zHo neg hi lo).choose_spec.2
def zJO(a:Int)(b:Int):∃x:Int×Int,Om CC 186 [.t (.int .i64 a),.t (.int .i64 b)] []=some (.val (.tup [.t (.int .i64 x.1),.t (.int .i64 x.2)]),[])∧R64 x.1:=by
 refine zJ yAn rfl ?_
 (have F_:=c3 zF zQ yFj;show W CC 0 23 (zA 186) _ ⟨[(0,_),(1,_)],[]⟩ _)
 (repeat' first|refine gA ?_|refine gT ?_ ?_<;>intro hv|fail)
 all_goals refine aJ ?_<;>exact⟨(_,_),⟨rfl,rfl⟩,by first|exact zHb _|(simp only[R64];decide)⟩
noncomputable def NAdd(a:Int)(b:Int):Int×Int:=(zJO a b).choose
def zQ2(a:Int)(b:Int):Om CC 186 [.t (.int .i64 a),.t (.int .i64 b)] []=some (.val (.tup [.t (.int .i64 (NAdd a b).1),.t (.int .i64 (NAdd a b).2)]),[]):=(zJO a b).choose_spec.1
def zTi(a:Int)(b:Int):R64 (NAdd a b).1:=(zJO a b).choose_spec.2
def zJQ(a:Int)(b:Int):∃x:Int×Int,Om CC 187 [.t (.int .i64 a),.t (.int .i64 b)] []=some (.val (.tup [.t (.int .i64 x.1),.t (.int .i64 x.2)]),[])∧R64 x.1:=by
 refine zJ yAs rfl ?_
 (have F_:=c3 zF zQ yFV;show W CC 0 23 (zA 187) _ ⟨[(0,_),(1,_)],[]⟩ _)
 (repeat' first|refine gA ?_|refine gT ?_ ?_<;>intro hv|fail)
 all_goals refine aJ ?_<;>exact⟨(_,_),⟨rfl,rfl⟩,by first|exact zHb _|(simp only[R64];decide)⟩
noncomputable def NSub(a:Int)(b:Int):Int×Int:=(zJQ a b).choose
def zQW(a:Int)(b:Int):Om CC 187 [.t (.int .i64 a),.t (.int .i64 b)] []=some (.val (.tup [.t (.int .i64 (NSub a b).1),.t (.int .i64 (NSub a b).2)]),[]):=(zJQ a b).choose_spec.1
def zU6(a:Int)(b:Int):R64 (NSub a b).1:=(zJQ a b).choose_spec.2
def zHU(a b:Int):∃x:Int×Int,Om CC 232 [.t (.int .u64 a),.t (.int .u64 b)] []=some (.val (.tup [.t (.int .u64 x.1),.t (.int .u64 x.2)]),[])∧U64 x.1∧U64 x.2:=by
 refine zJ zYp rfl ?_
 (have F_:=c2 kJ yDI;show W CC 0 51 (zA 232) _ ⟨[(0,_),(1,_)],[]⟩ _)
 skip
 (refine gA ?_)
 all_goals refine aJ ?_<;>exact⟨(_,_),⟨rfl,rfl⟩,zA8 _,zA8 _⟩
noncomputable def Mul64(a b:Int):Int×Int:=(zHU a b).choose
def zFE(a b:Int):Om CC 232 [.t (.int .u64 a),.t (.int .u64 b)] []=some (.val (.tup [.t (.int .u64 (Mul64 a b).1),.t (.int .u64 (Mul64 a b).2)]),[]):=(zHU a b).choose_spec.1
def zZ2(a b:Int):U64 (Mul64 a b).1∧U64 (Mul64 a b).2:=(zHU a b).choose_spec.2
def zJ9(a:Int)(b:Int):∃x:Int×Int,Om CC 188 [.t (.int .i64 a),.t (.int .i64 b)] []=some (.val (.tup [.t (.int .i64 x.1),.t (.int .i64 x.2)]),[])∧R64 x.1:=by
 refine zJ zYy rfl ?_
 (have F_:=c5 zF zQ kJ yFW (c5 zKM zKA zIx @zHp (c2 @zFW @zFE));show W CC 0 26 (zA 188) _ ⟨[(0,_),(1,_)],[]⟩ _)
 (refine gA ?_)
 all_goals refine aJ ?_<;>exact⟨(_,_),⟨rfl,rfl⟩,by first|exact zHb _|exact zDR _ _ _|(simp only[R64];decide)⟩
noncomputable def NMul(a:Int)(b:Int):Int×Int:=(zJ9 a b).choose
def zQ6(a:Int)(b:Int):Om CC 188 [.t (.int .i64 a),.t (.int .i64 b)] []=some (.val (.tup [.t (.int .i64 (NMul a b).1),.t (.int .i64 (NMul a b).2)]),[]):=(zJ9 a b).choose_spec.1
def zT4(a:Int)(b:Int):R64 (NMul a b).1:=(zJ9 a b).choose_spec.2
def zJ4(a b:Int)(hb:R64 b):∃x:Int×Int,Om CC 190 [.t (.int .i64 a),.t (.int .i64 b)] []=some (.val (.tup [.t (.int .i64 x.1),.t (.int .i64 x.2)]),[])∧R64 x.1:=by
 refine zJ yAh rfl ?_
 (have F_:=c5 zF zQ kJ yGc (c5 zKM zKA zIx @zHp (c2 @zFW @zFE));show W CC 0 21 (zA 190) _ ⟨[(0,_),(1,_)],[]⟩ _)
 by_cases h0:b=0
 ·subst h0
  (refine gA ?_)
  all_goals refine aJ ?_<;>exact⟨(_,_),⟨rfl,rfl⟩,by first|exact zDR _ _ _|(simp only[R64];decide)⟩
 have hn:=zQg hb h0;have hq:(b==0)=false:=by simpa using h0
 have h0_:=fun P t k a=>zI8 P t k a _ hn
 (refine gA ?_)
 all_goals refine aJ ?_<;>exact⟨(_,_),⟨rfl,rfl⟩,by first|exact zDR _ _ _|(simp only[R64];decide)⟩
def zJV(a b:Int)(hb:R64 b):∃x:Int×Int,Om CC 193 [.t (.int .i64 a),.t (.int .i64 b)] []=some (.val (.tup [.t (.int .i64 x.1),.t (.int .i64 x.2)]),[])∧R64 x.1:=by
 refine zJ yAU rfl ?_
 (have F_:=c5 zF zQ kJ yBj (c5 zKM zKA zIx @zHp (c2 @zFW @zFE));show W CC 0 18 (zA 193) _ ⟨[(0,_),(1,_)],[]⟩ _)
 by_cases h0:b=0
 ·subst h0
  (refine gA ?_)
  all_goals refine aJ ?_<;>exact⟨(_,_),⟨rfl,rfl⟩,by first|exact zDR _ _ _|(simp only[R64];decide)⟩
 have hn:=zQg hb h0;have hq:(b==0)=false:=by simpa using h0
 have h0_:=fun P t k a=>zMn P t k a _ hn
 (refine gA ?_)
 all_goals refine aJ ?_<;>exact⟨(_,_),⟨rfl,rfl⟩,by first|exact zDR _ _ _|(simp only[R64];decide)⟩
open Classical in
noncomputable def NQuo(a b:Int):Int×Int:=if h:R64 b then (zJ4 a b h).choose else (0,0)
def zY2(a b:Int)(h:R64 b):Om CC 190 [.t (.int .i64 a),.t (.int .i64 b)] []=some (.val (.tup [.t (.int .i64 (NQuo a b).1),.t (.int .i64 (NQuo a b).2)]),[]):=by
 unfold NQuo;rw[dif_pos h];exact(zJ4 a b h).choose_spec.1
def yBK(a b:Int):R64 (NQuo a b).1:=by
 unfold NQuo;split
 ·rename_i h;exact(zJ4 a b h).choose_spec.2
 simp [R64]
open Classical in
noncomputable def NMod(a b:Int):Int×Int:=if h:R64 b then (zJV a b h).choose else (0,0)
def yAE(a b:Int)(h:R64 b):Om CC 193 [.t (.int .i64 a),.t (.int .i64 b)] []=some (.val (.tup [.t (.int .i64 (NMod a b).1),.t (.int .i64 (NMod a b).2)]),[]):=by
 unfold NMod;rw[dif_pos h];exact(zJV a b h).choose_spec.1
def yBg(a b:Int):R64 (NMod a b).1:=by
 unfold NMod;split
 ·rename_i h;exact(zJV a b h).choose_spec.2
 simp [R64]
def zHf(a:Int):∃x:Int×Int,Om CC 298 [.t (.int .i64 a)] []=some (.val (.tup [.t (.int .i64 x.1),.t (.int .i64 x.2)]),[])∧R64 x.1:=by
 refine zJ yAF rfl ?_
 (have F_:=c3 zF yBh (c2 zUz @zQ6);show W CC 0 8 (zA 298) _ ⟨[(0,_)],[]⟩ _)
 (refine gA ?_)
 all_goals refine aJ ?_<;>exact⟨(_,_),⟨rfl,rfl⟩,zT4 _ _⟩
noncomputable def zOq(a:Int):Int×Int:=(zHf a).choose
def zSS(a:Int):Om CC 298 [.t (.int .i64 a)] []=some (.val (.tup [.t (.int .i64 (zOq a).1),.t (.int .i64 (zOq a).2)]),[]):=(zHf a).choose_spec.1
def zV1(a:Int):R64 (zOq a).1:=(zHf a).choose_spec.2
def zFl:List Nat:=[0,1,2,2,3,3,3,3,4,4,4,4,4,4,4,4,5,5,5,5,5,5,5,5,5,5,5,5,5,5,5,5,6,6,6,6,6,6,6,6,6,6,6,6,6,6,6,6,6,6,6,6,6,6,6,6,6,6,6,6,6,6,6,6,7,7,7,7,7,7,7,7,7,7,7,7,7,7,7,7,7,7,7,7,7,7,7,7,7,7,7,7,7,7,7,7,7,7,7,7,7,7,7,7,7,7,7,7,7,7,7,7,7,7,7,7,7,7,7,7,7,7,7,7,7,7,7,7,8,8,8,8,8,8,8,8,8,8,8,8,8,8,8,8,8,8,8,8,8,8,8,8,8,8,8,8,8,8,8,8,8,8,8,8,8,8,8,8,8,8,8,8,8,8,8,8,8,8,8,8,8,8,8,8,8,8,8,8,8,8,8,8,8,8,8,8,8,8,8,8,8,8,8,8,8,8,8,8,8,8,8,8,8,8,8,8,8,8,8,8,8,8,8,8,8,8,8,8,8,8,8,8,8,8,8,8,8,8,8,8,8,8,8,8,8,8,8,8,8,8,8,8,8,8,8,8]
def zLC:((List.range 256).all fun b=>match nth zFl b with
  |some m=>decide (m≤8)&&decide (b<2 ^ m)&&(b==0||decide (2 ^ m≤2 * b))
  |none=>false)=true:=by kernel_rfl
def zYe{S:List Nat}{z:Int}(hS:S=zFl)(h0:0≤z)(h1:z<256):index Tryz.prog 9 (.t (.str S)) z=some (.t (.int .u8 (((nth zFl z.toNat).getD 0:Nat):Int))):=by
 subst hS;obtain⟨b,rfl⟩:=Int.eq_ofNat_of_zero_le h0;have h:=List.all_eq_true.1 zLC b (List.mem_range.2 (by omega));unfold index;rw[zEg];simp only[idx];cases hn:nth zFl b with
 |none=>rw[hn] at h;cases h
 |some m=>simp [hn,idx]
def zZ0{z:Int}(h0:0≤z)(h1:z<256):∃m:Nat,(nth zFl z.toNat).getD 0=m∧m≤8∧z<((2 ^ m:Nat):Int)∧(z≠0→((2 ^ m:Nat):Int)≤2 * z):=by
 obtain⟨b,rfl⟩:=Int.eq_ofNat_of_zero_le h0;have h:=List.all_eq_true.1 zLC b (List.mem_range.2 (by omega));cases hn:nth zFl b with
 |none=>rw[hn] at h;cases h
 |some m =>
  rw[hn] at h;simp only[Bool.and_eq_true,decide_eq_true_eq,Bool.or_eq_true,beq_iff_eq] at h;refine⟨m,by simp [hn],h.1.1,by omega,fun hb=>?_⟩;rcases h.2 with h2|h2
  ·omega
  omega
def zQ3(x:Int):0≤IntKind.u8.wrap x∧IntKind.u8.wrap x<256:=by
 simp only[IntKind.wrap,IntKind.signed,IntKind.bits,Bool.false_and];simp;omega
def yGo{x:Int}(h0:0≤x)(h1:x<256):IntKind.u8.wrap x=x:=by
 simp only[IntKind.wrap,IntKind.signed,IntKind.bits,Bool.false_and];simp;omega
def zC2 (x z c:Int) (K:Nat) (hc:c=K) (hK:K≤56) (hz:z=x / ((2 ^ K:Nat):Int)) (z0:0≤z) (z1:z<256) (hx0:0≤x) (hnz:x≠0→z≠0) :
  ∃a:Int,(Out.val (AV.t (.int .i64 (IntKind.i64.wrap (c+IntKind.i64.wrap (((nth zFl z.toNat).getD 0:Nat):Int)))))=Out.val (.t (.int .i64 a))∧([]:Heap)=[]) ∧
   ∃m:Nat,a=m∧m≤64∧x<((2 ^ m:Nat):Int)∧(x≠0→((2 ^ m:Nat):Int)≤2 * x):=by
 subst hc;obtain⟨m,hm,h8,hz1,hz2⟩:=zZ0 z0 z1;rw[hm,wrap64 (x:=(m:Int)) (by omega) (by omega),wrap64 (by omega) (by omega)];refine⟨((K+m:Nat):Int),⟨by congr 4,rfl⟩,K+m,rfl,by omega,?_,fun h=>?_⟩
 ·rw[Nat.pow_add];have hp:(0:Int)<((2 ^ K:Nat):Int):=by
   have:=Nat.pow_pos (n:=K) (show 0<2 by decide);omega
  have h1:x<((2 ^ K:Nat):Int) * (z+1):=by rw[hz,Int.mul_add,Int.mul_one];exact Int.lt_mul_ediv_self_add hp
  have h2:((2 ^ K:Nat):Int) * (z+1)≤((2 ^ K:Nat):Int) * ((2 ^ m:Nat):Int):=Int.mul_le_mul_of_nonneg_left (by omega) (by omega)
  push_cast at *
  omega
 rw[Nat.pow_add];have hp:(0:Int)≤((2 ^ K:Nat):Int):=Int.natCast_nonneg _;have h1:((2 ^ K:Nat):Int) * z≤x:=by rw[hz];exact Int.mul_ediv_self_le (by have:=Nat.pow_pos (n:=K) (show 0<2 by decide);omega)
 have h2:((2 ^ K:Nat):Int) * ((2 ^ m:Nat):Int)≤((2 ^ K:Nat):Int) * (2 * z):=Int.mul_le_mul_of_nonneg_left (hz2 (hnz h)) hp;have h3:((2 ^ K:Nat):Int) * (2 * z)=2 * (((2 ^ K:Nat):Int) * z):=by rw[Int.mul_left_comm]
 push_cast at *
 omega
def zUH(x:Int)(hx:U64 x):∃n:Int,Om CC 327 [.t (.int .u64 x)] []=some (.val (.t (.int .i64 n)),[])∧∃m:Nat,n=m∧m≤64∧x<((2 ^ m:Nat):Int)∧(x≠0→((2 ^ m:Nat):Int)≤2 * x):=by
 refine zJ zZB rfl ?_
 (have F_:=c5 zG zE zD kJ yD2;show W CC 0 25 (zA 327) _ ⟨[(0,_)],[]⟩ _)
 have e1:IntKind.i64.wrap (32+16)=48:=by decide
 have e2:IntKind.i64.wrap (0+16)=16:=by decide
 have e3:IntKind.i64.wrap (48+8)=56:=by decide
 have e4:IntKind.i64.wrap (16+8)=24:=by decide
 have e5:IntKind.i64.wrap (32+8)=40:=by decide
 have e6:IntKind.i64.wrap (0+8)=8:=by decide
 unfold U64 at hx
 (repeat' first|refine gA ?_|refine gT ?_ ?_<;>intro hv|fail)
 all_goals simp only[decide_eq_true_eq,decide_eq_false_iff_not] at *
 all_goals (
  rw[zYe]
  rotate_left
  ·kernel_rfl
  ·exact(zQ3 _).1
  ·exact(zQ3 _).2
  (refine gA ?_)
  (refine aJ ?_)
  rw[yGo (by omega) (by omega)]
  first
  |exact zC2 x _ _ 56 (by decide) (by decide) (by omega) (by omega) (by omega) hx.1 (by omega)
  |exact zC2 x _ _ 48 (by decide) (by decide) (by omega) (by omega) (by omega) hx.1 (by omega)
  |exact zC2 x _ _ 40 (by decide) (by decide) (by omega) (by omega) (by omega) hx.1 (by omega)
  |exact zC2 x _ _ 32 (by decide) (by decide) (by omega) (by omega) (by omega) hx.1 (by omega)
  |exact zC2 x _ _ 24 (by decide) (by decide) (by omega) (by omega) (by omega) hx.1 (by omega)
  |exact zC2 x _ _ 16 (by decide) (by decide) (by omega) (by omega) (by omega) hx.1 (by omega)
  |exact zC2 x _ _ 8 (by decide) (by decide) (by omega) (by omega) (by omega) hx.1 (by omega)
  |exact zC2 x _ _ 0 (by decide) (by decide) (by omega) (by omega) (by omega) hx.1 (by omega))
def zVC(x:Int)(hx:U64 x):∃m:Nat,Om CC 327 [.t (.int .u64 x)] []=some (.val (.t (.int .i64 (m:Int))),[])∧m≤64∧x<((2 ^ m:Nat):Int)∧(x≠0→((2 ^ m:Nat):Int)≤2 * x):=by
 obtain⟨n,h1,m,rfl,h2⟩:=zUH x hx;exact⟨m,h1,h2⟩
def zWG(x:Int)(hx:U64 x):∃s:Nat,Om CC 299 [.t (.int .u64 x)] []=some (.val (.t (.int .i64 (s:Int))),[])∧s≤64 ∧
  (x≠0→9223372036854775808≤x * ((2 ^ s:Nat):Int)∧x * ((2 ^ s:Nat):Int)<18446744073709551616):=by
 obtain⟨m,hm,h1,h2,h3⟩:=zVC x hx;refine zJ yAr rfl ?_
 (have F_:=c3 zG kJ (c2 yEv yDe);show W CC 0 6 (zA 299) _ ⟨[(0,_)],[]⟩ _)
 have hw:IntKind.i64.wrap (64 - (m:Int))=((64 - m:Nat):Int):=by rw[wrap64]<;>omega
 (refine gA ?_)
 (refine aJ ?_)
 refine⟨64 - m,⟨rfl,rfl⟩,by omega,fun h0=>?_⟩;have hp:((2 ^ m:Nat):Int) * ((2 ^ (64 - m):Nat):Int)=18446744073709551616:=by
  have:2 ^ m * 2 ^ (64 - m)=18446744073709551616:=by rw[← Nat.pow_add,show m+(64 - m)=64 by omega]
  rw[← Int.natCast_mul,this];rfl
 have hq:(0:Int)<((2 ^ (64 - m):Nat):Int):=by
  have:=Nat.pow_pos (n:=64 - m) (show 0<2 by decide);omega
 have h4:=Int.mul_le_mul_of_nonneg_right (h3 h0) (Int.le_of_lt hq);have h5:=Int.mul_lt_mul_of_pos_right h2 hq;rw[hp] at h4 h5;rw[Int.mul_assoc] at h4;omega
def zHL(r:Int):Nat:=if r<4294967296 then (4294967296 - r).toNat else 4294967297
def zJJ{r y:Int}(hr:0≤r)(hy:1≤y)(hy2:y<4294967296)(h:IntKind.u64.wrap (r+y)<4294967296)(hu:r<18446744073709551616):zHL (IntKind.u64.wrap (r+y))<zHL r:=by
 rw[zBC] at *;unfold zHL;rw[if_pos h];split<;>omega
set_option maxHeartbeats 8000000
def zNd(hi lo y:Int)(h1:U64 hi)(h2:U64 lo)(h3:U64 y)(h4:hi<y):∃x:Int×Int,Om CC 269 [.t (.int .u64 hi),.t (.int .u64 lo),.t (.int .u64 y)] []=some (.val (.tup [.t (.int .u64 x.1),.t (.int .u64 x.2)]),[])∧True:=by
 refine zJ zZQ rfl ?_
 (have F_:=c5 zG kJ zCw yF6 (c2 yFd yFy);show W CC 0 135 (zA 269) _ ⟨[(0,_),(1,_),(2,_)],[]⟩ _)
 obtain⟨s,hs,hs1,hs2⟩:=zWG y h3;have hy0:y≠0:=by unfold U64 at *;omega
 have hb1:(y==0)=false:=by simpa using hy0
 have hb2:decide (y≤hi)=false:=by simpa using h4
 have hws:IntKind.u64.wrap (s:Int)=s:=by rw[zBC];omega
 have hs0:(0:Int)≤s:=by omega
 have h64:0≤IntKind.u64.wrap (64 - (s:Int)):=(zA8 _).1;have hY:IntKind.u64.wrap (y * 2 ^ min ((s:Int)).toNat IntKind.u64.bits)=y * ((2 ^ s:Nat):Int):=by
  have:min ((s:Int)).toNat IntKind.u64.bits=s:=by simp [IntKind.bits];omega
  rw[this,zBC];have:=hs2 hy0
  push_cast at *
  omega
 obtain⟨hy1,hy2⟩:=hs2 hy0;generalize y * ((2 ^ s:Nat):Int)=Y at hY hy1 hy2;have hyn:Y / 4294967296≠0:=by omega
 cases hz:(hi==0) with
 |true =>
  have h0_:=fun P t k a=>zI8 P t k a _ hy0
  have h1_:=fun P t k a=>zMn P t k a _ hy0
  (refine gA ?_)
  all_goals refine aJ ?_<;>exact⟨(_,_),⟨rfl,rfl⟩,trivial⟩
 |false =>
  have h0_:=fun P t k k2 a=>zY6 P t k k2 a _ hs0
  have h1_:=fun P t k k2 a=>zMr P t k k2 a _ h64
  have h2_:=fun P t k a=>zI8 P t k a _ hyn
  simp only[Int.toNat_natCast] at hY
  (refine gA ?_)
  generalize zDj .and .u64 Y 4294967295=A;generalize IntKind.u64.wrap (lo * 2 ^ min s IntKind.u64.bits)=L;generalize zDj .and .u64 L 4294967295=D;generalize hB:zDj .or .u64 _ _=B;have hr0:U64 (IntKind.u64.wrap (B - IntKind.u64.wrap (IntKind.u64.wrap (B.tdiv (Y / 4294967296)) * (Y / 4294967296)))):=zA8 _;generalize IntKind.u64.wrap (B - IntKind.u64.wrap (IntKind.u64.wrap (B.tdiv (Y / 4294967296)) * (Y / 4294967296)))=r0 at *;generalize IntKind.u64.wrap (B.tdiv (Y / 4294967296))=q0 at *;refine W.mono (Q:=fun e st=>e=.exit 0∧∃q:Int,get st.T 2=.t (.int .u64 Y)∧get st.T 8=.t (.int .u64 s)∧get st.T 9=.t (.int .u64 (Y / 4294967296))∧get st.T 10=.t (.int .u64 A)∧get st.T 11=.t (.int .u64 B) ∧
   get st.T 13=.t (.int .u64 (L / 4294967296))∧get st.T 14=.t (.int .u64 D)∧get st.T 15=.t (.int .u64 q)∧st.h=[]∧Ab.get st.T 135=.unk) ?_ ?_
  ·refine zY (α:=Int×Int) (fun a=>⟨[(2,.t (.int .u64 Y)),(8,.t (.int .u64 s)),(9,.t (.int .u64 (Y / 4294967296))),(10,.t (.int .u64 A)),(11,.t (.int .u64 B)),(13,.t (.int .u64 (L / 4294967296))),(14,.t (.int .u64 D)),(15,.t (.int .u64 a.1)),(16,.t (.int .u64 a.2))],[]⟩)
    (fun a=>zHL a.2) (fun a=>U64 a.2) (q0,r0) (by kernel_rfl) hr0 ?_
   rintro⟨q,r⟩ hr
   try dsimp only at hr
   (repeat' first|refine gA ?_|refine gT ?_ ?_<;>intro hv|fail)
   all_goals first
    |exact⟨rfl,_,rfl,rfl,rfl,rfl,rfl,rfl,rfl,rfl,rfl,rfl⟩
    |exact zC (IntKind.u64.wrap (q - 1),IntKind.u64.wrap (r+Y / 4294967296)) (zJJ hr.1 (by omega) (by omega) (by simpa using hv) hr.2) (zA8 _) (by kernel_rfl)
  rintro e ⟨T,h⟩ ⟨rfl,q1,g2,g8,g9,g10,g11,g13,g14,g15,gh,gD⟩;dsimp only at g2 g8 g9 g10 g11 g13 g14 g15 gh gD;subst gh;have h0_:=fun P t k a=>zI8 P t k a _ hyn
  (refine gA ?_)
  generalize hU:IntKind.u64.wrap (IntKind.u64.wrap (IntKind.u64.wrap (B * 4294967296)+L / 4294967296) - IntKind.u64.wrap (q1 * Y))=U;have hr1:U64 (IntKind.u64.wrap (U - IntKind.u64.wrap (IntKind.u64.wrap (U.tdiv (Y / 4294967296)) * (Y / 4294967296)))):=zA8 _;generalize IntKind.u64.wrap (U - IntKind.u64.wrap (IntKind.u64.wrap (U.tdiv (Y / 4294967296)) * (Y / 4294967296)))=r1 at *;generalize IntKind.u64.wrap (U.tdiv (Y / 4294967296))=q2 at *;refine W.mono (Q:=fun e st=>e=.exit 2∧∃q:Int,get st.T 2=.t (.int .u64 Y)∧get st.T 8=.t (.int .u64 s)∧get st.T 14=.t (.int .u64 D)∧get st.T 15=.t (.int .u64 q1)∧get st.T 17=.t (.int .u64 U)∧get st.T 18=.t (.int .u64 q)∧st.h=[]∧Ab.get st.T 135=.unk) ?_ ?_
  ·refine zY (α:=Int×Int) (fun a=>⟨[(2,.t (.int .u64 Y)),(8,.t (.int .u64 s)),(9,.t (.int .u64 (Y / 4294967296))),(10,.t (.int .u64 A)),(14,.t (.int .u64 D)),(15,.t (.int .u64 q1)),(16,.t (.int .u64 a.2)),(17,.t (.int .u64 U)),(18,.t (.int .u64 a.1))],[]⟩)
    (fun a=>zHL a.2) (fun a=>U64 a.2) (q2,r1) (by(have X_:=c5 @g2 @g8 @g9 @g10 (c3 @g14 @g15 @gD);exact aTdX)) hr1 ?_
   rintro⟨q,r⟩ hr
   try dsimp only at hr
   (repeat' first|refine gA ?_|refine gT ?_ ?_<;>intro hv|fail)
   all_goals first
    |exact⟨rfl,_,rfl,rfl,rfl,rfl,rfl,rfl,rfl,rfl⟩
    |exact zC (IntKind.u64.wrap (q - 1),IntKind.u64.wrap (r+Y / 4294967296)) (zJJ hr.1 (by omega) (by omega) (by simpa using hv) hr.2) (zA8 _) (by kernel_rfl)
  rintro e ⟨T',h⟩ ⟨rfl,q3,f2,f8,f14,f15,f17,f18,fh,fD⟩;dsimp only at f2 f8 f14 f15 f17 f18 fh fD;subst fh;clear g2 g8 g9 g10 g11 g13 g14 g15;have h0_:=fun P t k k2 a=>zMr P t k k2 a _ hs0
  (refine gA ?_)
  refine aJ ?_ (h0:=by(show yI 135 _=some [];simp only[yI,Ab.get,Nat.beq,fD]));exact⟨(_,_),⟨rfl,rfl⟩,trivial⟩
open Classical in
noncomputable def Div64(hi lo y:Int):Int×Int:=if h:U64 hi∧U64 lo∧U64 y∧hi<y then (zNd hi lo y h.1 h.2.1 h.2.2.1 h.2.2.2).choose else (0,0)
def zWf(hi lo y:Int)(h:U64 hi∧U64 lo∧U64 y∧hi<y):Om CC 269 [.t (.int .u64 hi),.t (.int .u64 lo),.t (.int .u64 y)] []=some (.val (.tup [.t (.int .u64 (Div64 hi lo y).1),.t (.int .u64 (Div64 hi lo y).2)]),[]):=by
 unfold Div64;rw[dif_pos h];exact(zNd hi lo y h.1 h.2.1 h.2.2.1 h.2.2.2).choose_spec.1
def zHS(hi lo a b d:Int):∃x:Int×Int,Om CC 268 [.t (.int .u64 hi),.t (.int .u64 lo),.box 0 0,.box 1 0,.box 2 0] [.box [.t (.int .i64 a)],.box [.t (.int .i64 b)],.box [.t (.int .i64 d)]] =
  some (.val (.tup [.t (.int .i64 x.1),.t (.int .i64 x.2)]),[.box [.t (.int .i64 a)],.box [.t (.int .i64 b)],.box [.t (.int .i64 d)]])∧R64 x.1:=by
 refine zAa zY5 rfl ?_
 (have F_:=c5 zF zQ kJ yCU (c2 zKA @zFW);show W CC 3 22 (zA 268) _ ⟨[(0,_),(1,_),(2,_),(3,_),(4,_)],[_,_,_]⟩ _)
 (refine gA ?_)
 (refine aJ ?_)
 exact⟨(_,_),⟨rfl,rfl⟩,zDR _ _ _⟩
noncomputable def zRx(hi lo a b d:Int):Int×Int:=(zHS hi lo a b d).choose
def zW6(hi lo a b d:Int):Om CC 268 [.t (.int .u64 hi),.t (.int .u64 lo),.box 0 0,.box 1 0,.box 2 0] [.box [.t (.int .i64 a)],.box [.t (.int .i64 b)],.box [.t (.int .i64 d)]] =
  some (.val (.tup [.t (.int .i64 (zRx hi lo a b d).1),.t (.int .i64 (zRx hi lo a b d).2)]),[.box [.t (.int .i64 a)],.box [.t (.int .i64 b)],.box [.t (.int .i64 d)]]):=(zHS hi lo a b d).choose_spec.1
def zQR(hi lo a b d:Int):R64 (zRx hi lo a b d).1:=(zHS hi lo a b d).choose_spec.2
def zKg(a b d:Int):∃x:Int×Int,Om CC 235 [.t (.int .i64 a),.t (.int .i64 b),.t (.int .i64 d)] []=some (.val (.tup [.t (.int .i64 x.1),.t (.int .i64 x.2)]),[])∧R64 x.1:=by
 refine zJ zYa rfl ?_
 (have F_:=c5 zF kJ yF0 zKM (c5 zIx yE7 yES @zHp (c2 @zFE @zW6));show W CC 0 61 (zA 235) _ ⟨[(0,_),(1,_),(2,_)],[]⟩ _)
 have hu:=zZ2 (Size a) (Size b);have hd:=yEO d
 by_cases hlt:(Mul64 (Size a) (Size b)).1<Size d
 ·have hge:decide ((Mul64 (Size a) (Size b)).1 ≥ Size d)=false:=by simpa using hlt
  have hdiv:=zWf (Mul64 (Size a) (Size b)).1 (Mul64 (Size a) (Size b)).2 (Size d) ⟨hu.1,hu.2,hd,hlt⟩;clear hu hd
  (repeat' first|refine gA ?_|refine gT ?_ ?_<;>intro hv|fail)
  all_goals refine aJ ?_<;>exact⟨(_,_),⟨rfl,rfl⟩,by first|exact zQR _ _ _ _ _|(simp only[R64];decide)⟩
 have hge:decide ((Mul64 (Size a) (Size b)).1 ≥ Size d)=true:=by simpa using hlt
 clear hu hd
 (refine gA ?_)
 all_goals refine aJ ?_<;>exact⟨(_,_),⟨rfl,rfl⟩,by first|exact zQR _ _ _ _ _|(simp only[R64];decide)⟩
noncomputable def Over(a b d:Int):Int×Int:=(zKg a b d).choose
def zQT(a b d:Int):Om CC 235 [.t (.int .i64 a),.t (.int .i64 b),.t (.int .i64 d)] []=some (.val (.tup [.t (.int .i64 (Over a b d).1),.t (.int .i64 (Over a b d).2)]),[]):=(zKg a b d).choose_spec.1
def zTr(a b d:Int):R64 (Over a b d).1:=(zKg a b d).choose_spec.2
def zGl(a b:Int):∃x:Int×Int,Om CC 189 [.t (.int .i64 a),.t (.int .i64 b)] []=some (.val (.tup [.t (.int .i64 x.1),.t (.int .i64 x.2)]),[])∧R64 x.1:=by
 refine zJ zYJ rfl ?_
 (have F_:=c3 zF yDP (c2 zTA @zQT);show W CC 0 11 (zA 189) _ ⟨[(0,_),(1,_)],[]⟩ _)
 (refine gA ?_)
 all_goals refine aJ ?_<;>exact⟨(_,_),⟨rfl,rfl⟩,by first|exact zTr _ _ _|(simp only[R64];decide)⟩
noncomputable def zIK(a b:Int):Int×Int:=(zGl a b).choose
def zR4(a b:Int):Om CC 189 [.t (.int .i64 a),.t (.int .i64 b)] []=some (.val (.tup [.t (.int .i64 (zIK a b).1),.t (.int .i64 (zIK a b).2)]),[]):=(zGl a b).choose_spec.1
def zS4(a b:Int):R64 (zIK a b).1:=(zGl a b).choose_spec.2
def zGo(a b:Int):∃x:Int×Int,Om CC 191 [.t (.int .i64 a),.t (.int .i64 b)] []=some (.val (.tup [.t (.int .i64 x.1),.t (.int .i64 x.2)]),[])∧R64 x.1:=by
 refine zJ zZu rfl ?_
 (have F_:=c3 zF yEw (c2 zTA @zQT);show W CC 0 13 (zA 191) _ ⟨[(0,_),(1,_)],[]⟩ _)
 (repeat' first|refine gA ?_|refine gT ?_ ?_<;>intro hv|fail)
 all_goals refine aJ ?_<;>exact⟨(_,_),⟨rfl,rfl⟩,by first|exact zTr _ _ _|(simp only[R64];decide)⟩
noncomputable def zIY(a b:Int):Int×Int:=(zGo a b).choose
def zRO(a b:Int):Om CC 191 [.t (.int .i64 a),.t (.int .i64 b)] []=some (.val (.tup [.t (.int .i64 (zIY a b).1),.t (.int .i64 (zIY a b).2)]),[]):=(zGo a b).choose_spec.1
def zU4(a b:Int):R64 (zIY a b).1:=(zGo a b).choose_spec.2
def vX:R64 0:=by simp only[R64];decide
def yHI:R64 1:=by simp only[R64];decide
def VOK(v:Val):Prop:=R64 v.n∧v.s.length<4294967281
def yW{n:Int}(k:Int)(h:R64 n):VOK ⟨k,n,[]⟩:=⟨h,by simp⟩
def Zero:Val:=⟨0,0,[]⟩
def yR:VOK Zero:=yW 0 vX
def zKP(a:Int):∃x:Bool,Om CC 261 [.t (.int .u64 a)] []=some (.val (.t (.bool x)),[])∧(True):=by
 refine zJ zYS rfl ?_
 (have F_:=c2 kJ yF2;show W CC 0 6 (zA 261) _ ⟨[(0,_)],[]⟩ _)
 (refine gA ?_)
 all_goals refine aJ ?_<;>exact⟨_,⟨rfl,rfl⟩,by trivial⟩
noncomputable def yEx(a:Int):Bool:=(zKP a).choose
def zTW(a:Int):Om CC 261 [.t (.int .u64 a)] []=some (.val (.t (.bool (yEx a))),[]):=(zKP a).choose_spec.1
def zLl(a:Int)(b:Int):∃x:Int,Om CC 227 [.t (.int .u64 a),.t (.int .u64 b)] []=some (.val (.t (.int .i64 x)),[])∧(True):=by
 refine zJ zZn rfl ?_
 (have F_:=c3 kJ yE2 (c2 yBy @zTW);show W CC 0 20 (zA 227) _ ⟨[(0,_),(1,_)],[]⟩ _)
 (repeat' first|refine gA ?_|refine gT ?_ ?_<;>intro hv|fail)
 all_goals refine aJ ?_<;>exact⟨_,⟨rfl,rfl⟩,by trivial⟩
noncomputable def yDd(a:Int)(b:Int):Int:=(zLl a b).choose
def zVc(a:Int)(b:Int):Om CC 227 [.t (.int .u64 a),.t (.int .u64 b)] []=some (.val (.t (.int .i64 (yDd a b))),[]):=(zLl a b).choose_spec.1
def zK2(a:Int):∃x:Bool,Om CC 270 [.t (.int .i64 a)] []=some (.val (.t (.bool x)),[])∧(True):=by
 refine zJ zX4 rfl ?_
 (have F_:=c2 zF yDa;show W CC 0 6 (zA 270) _ ⟨[(0,_)],[]⟩ _)
 (refine gA ?_)
 all_goals refine aJ ?_<;>exact⟨_,⟨rfl,rfl⟩,by trivial⟩
noncomputable def yC7(a:Int):Bool:=(zK2 a).choose
def zUF(a:Int):Om CC 270 [.t (.int .i64 a)] []=some (.val (.t (.bool (yC7 a))),[]):=(zK2 a).choose_spec.1
def zKC(a:Int)(b:Int):∃x:Int,Om CC 236 [.t (.int .i64 a),.t (.int .i64 b)] []=some (.val (.t (.int .i64 x)),[])∧(True):=by
 refine zJ zYF rfl ?_
 (have F_:=c3 zF yBu (c2 yFv @zUF);show W CC 0 20 (zA 236) _ ⟨[(0,_),(1,_)],[]⟩ _)
 (repeat' first|refine gA ?_|refine gT ?_ ?_<;>intro hv|fail)
 all_goals refine aJ ?_<;>exact⟨_,⟨rfl,rfl⟩,by trivial⟩
noncomputable def yDo(a:Int)(b:Int):Int:=(zKC a b).choose
def zNr(a:Int)(b:Int):Om CC 236 [.t (.int .i64 a),.t (.int .i64 b)] []=some (.val (.t (.int .i64 (yDo a b))),[]):=(zKC a b).choose_spec.1
def zMR(a:Int):∃x:Bool,Om CC 295 [.t (.int .u8 a)] []=some (.val (.t (.bool x)),[])∧(True):=by
 refine zJ zYr rfl ?_
 (have F_:=c2 zE yFh;show W CC 0 6 (zA 295) _ ⟨[(0,_)],[]⟩ _)
 (refine gA ?_)
 all_goals refine aJ ?_<;>exact⟨_,⟨rfl,rfl⟩,by trivial⟩
noncomputable def yGD(a:Int):Bool:=(zMR a).choose
def zWO(a:Int):Om CC 295 [.t (.int .u8 a)] []=some (.val (.t (.bool (yGD a))),[]):=(zMR a).choose_spec.1
def zNh(a:Int)(b:Int):∃x:Int,Om CC 262 [.t (.int .u8 a),.t (.int .u8 b)] []=some (.val (.t (.int .i64 x)),[])∧(True):=by
 refine zJ yAH rfl ?_
 (have F_:=c3 zE yCV (c2 yC9 @zWO);show W CC 0 20 (zA 262) _ ⟨[(0,_),(1,_)],[]⟩ _)
 (repeat' first|refine gA ?_|refine gT ?_ ?_<;>intro hv|fail)
 all_goals refine aJ ?_<;>exact⟨_,⟨rfl,rfl⟩,by trivial⟩
noncomputable def yGw(a:Int)(b:Int):Int:=(zNh a b).choose
def zWh(a:Int)(b:Int):Om CC 262 [.t (.int .u8 a),.t (.int .u8 b)] []=some (.val (.t (.int .i64 (yGw a b))),[]):=(zNh a b).choose_spec.1
def zLA(a:List Nat):∃x:Bool,Om CC 296 [.t (.str a)] []=some (.val (.t (.bool x)),[])∧(True):=by
 refine zJ yAu rfl ?_
 (have F_:=c2 zD yDn;show W CC 0 6 (zA 296) _ ⟨[(0,_)],[]⟩ _)
 (refine gA ?_)
 all_goals refine aJ ?_<;>exact⟨_,⟨rfl,rfl⟩,by trivial⟩
noncomputable def yC8(a:List Nat):Bool:=(zLA a).choose
def zT1(a:List Nat):Om CC 296 [.t (.str a)] []=some (.val (.t (.bool (yC8 a))),[]):=(zLA a).choose_spec.1
def zLh(a:List Nat)(b:List Nat):∃x:Int,Om CC 263 [.t (.str a),.t (.str b)] []=some (.val (.t (.int .i64 x)),[])∧(True):=by
 refine zJ zZw rfl ?_
 (have F_:=c3 zD yFf (c2 yFc @zT1);show W CC 0 20 (zA 263) _ ⟨[(0,_),(1,_)],[]⟩ _)
 (repeat' first|refine gA ?_|refine gT ?_ ?_<;>intro hv|fail)
 all_goals refine aJ ?_<;>exact⟨_,⟨rfl,rfl⟩,by trivial⟩
noncomputable def yCo(a:List Nat)(b:List Nat):Int:=(zLh a b).choose
def zSM(a:List Nat)(b:List Nat):Om CC 263 [.t (.str a),.t (.str b)] []=some (.val (.t (.int .i64 (yCo a b))),[]):=(zLh a b).choose_spec.1
def zMT(l:List Int)(nl cl:Bool)(hl:l.length<9223372036854775808):∃x:Int,Om CC 226 [.t (.sl nl cl (l.map intC))] []=some (.val (.t (.int .i64 x)),[])∧True:=by
 refine zJ zY8 rfl ?_
 (have F_:=c3 zG zL yE8;show W CC 0 18 (zA 226) _ ⟨[(0,_)],[]⟩ _)
 (refine gA ?_)
 refine zY (α:=Nat) (fun i=>⟨[(3,.t (.int .i64 0)),(6,.t (.sl nl cl (l.map intC))),(7,.t (.int .i64 l.length)),(8,.t (.int .i64 i))],[]⟩) (fun i=>l.length - i) (fun i=>i≤l.length) 0 (by kernel_rfl) (Nat.zero_le _) ?_;intro i hi
 by_cases hi':i<l.length
 ·have hw:=wI64 i (by omega);have he:l[i]?=some l[i]:=List.getElem?_eq_getElem hi';have hd:decide ((i:Int)<l.length)=true:=by simpa using hi'
  (repeat' first|refine gA ?_|refine gT ?_ ?_<;>intro hv|fail)
  all_goals first
   |((refine aJ ?_);exact⟨_,⟨rfl,rfl⟩,trivial⟩)
   |exact zC (i+1) (by omega) (by omega) (by kernel_rfl)
 have hd:decide ((i:Int)<l.length)=false:=by simpa using hi'
 (refine gA ?_)
 (refine aJ ?_)
 exact⟨_,⟨rfl,rfl⟩,trivial⟩
def zTV(a b c:Int):∃x:Int,Om CC 226 [.t (.sl false false [[.int .i64 a],[.int .i64 b],[.int .i64 c]])] []=some (.val (.t (.int .i64 x)),[]):=by
 obtain⟨x,h,_⟩:=zMT [a,b,c] false false (by simp);exact⟨x,h⟩
noncomputable def Or3(a b c:Int):Int:=(zTV a b c).choose
def yE3(a b c:Int):Om CC 226 [.t (.sl false false [[.int .i64 a],[.int .i64 b],[.int .i64 c]])] []=some (.val (.t (.int .i64 (Or3 a b c))),[]):=(zTV a b c).choose_spec
def zUi(a b:Int):∃x:Int,Om CC 226 [.t (.sl false false [[.int .i64 a],[.int .i64 b]])] []=some (.val (.t (.int .i64 x)),[]):=by
 obtain⟨x,h,_⟩:=zMT [a,b] false false (by simp);exact⟨x,h⟩
noncomputable def Or2(a b:Int):Int:=(zUi a b).choose
def yCu(a b:Int):Om CC 226 [.t (.sl false false [[.int .i64 a],[.int .i64 b]])] []=some (.val (.t (.int .i64 (Or2 a b))),[]):=(zUi a b).choose_spec
def zM4(v:Val):∃x:Bool,Om CC 224 [.t (.agg [.int .u8 v.k,.int .i64 v.n,.str v.s])] []=some (.val (.t (.bool x)),[])∧(True):=by
 refine zJ yAa rfl ?_
 (have F_:=c5 zF zE zD zB yFS;show W CC 0 11 (zA 224) _ ⟨[(0,_)],[]⟩ _)
 (repeat' first|refine gA ?_|refine gT ?_ ?_<;>intro hv|fail)
 all_goals refine aJ ?_<;>exact⟨_,⟨rfl,rfl⟩,by trivial⟩
noncomputable def yHf(v:Val):Bool:=(zM4 v).choose
def zJR(v:Val):Om CC 224 [.t (.agg [.int .u8 v.k,.int .i64 v.n,.str v.s])] []=some (.val (.t (.bool (yHf v))),[]):=(zM4 v).choose_spec.1
def xaU:=c5 zF zQ zE zD (c2 zB zRm)
def zG3(b:Bool):∃x:Val,Om CC 86 [.t (.bool b)] []=some (.val (.t (.agg [.int .u8 x.k,.int .i64 x.n,.str x.s])),[])∧(VOK x):=by
 refine zJ zOk rfl ?_
 (have F_:=xaU;show W CC 0 6 (zA 86) _ ⟨[(0,_)],[]⟩ _)
 (repeat' first|refine gA ?_|refine gT ?_ ?_<;>intro hv|fail)
 all_goals refine aJ ?_<;>exact⟨⟨_,_,_⟩,⟨rfl,rfl⟩,by first|exact yW _ yHI|exact yW _ vX⟩
noncomputable def uR(b:Bool):Val:=(zG3 b).choose
def uU(b:Bool):Om CC 86 [.t (.bool b)] []=some (.val (.t (.agg [.int .u8 (uR b).k,.int .i64 (uR b).n,.str (uR b).s])),[]):=(zG3 b).choose_spec.1
def zC0(b:Bool):VOK (uR b):=(zG3 b).choose_spec.2
def xaV:=c5 zF zQ zE zD (c3 zB zXp (c2 zDz @uU))
def zKc(v:Val):∃x:Val,Om CC 87 [.t (.agg [.int .u8 v.k,.int .i64 v.n,.str v.s])] []=some (.val (.t (.agg [.int .u8 x.k,.int .i64 x.n,.str x.s])),[])∧(VOK x):=by
 refine zJ zSD rfl ?_
 (have F_:=xaV;show W CC 0 11 (zA 87) _ ⟨[(0,_)],[]⟩ _)
 (repeat' first|refine gA ?_|refine gT ?_ ?_<;>intro hv|fail)
 all_goals refine aJ ?_<;>exact⟨⟨_,_,_⟩,⟨rfl,rfl⟩,by first|exact yR|exact zC0 _⟩
noncomputable def NotV(v:Val):Val:=(zKc v).choose
def zGH(v:Val):Om CC 87 [.t (.agg [.int .u8 v.k,.int .i64 v.n,.str v.s])] []=some (.val (.t (.agg [.int .u8 (NotV v).k,.int .i64 (NotV v).n,.str (NotV v).s])),[]):=(zKc v).choose_spec.1
def zGD(v:Val):VOK (NotV v):=(zKc v).choose_spec.2
def zLy(v:Val):∃x:Bool×Int×Int,Om CC 225 [.t (.agg [.int .u8 v.k,.int .i64 v.n,.str v.s])] []=some (.val (.tup [.t (.bool x.1),.t (.int .u64 x.2.1),.t (.int .u64 x.2.2)]),[])∧(True):=by
 refine zJ zZN rfl ?_
 (have F_:=c5 zF zE zD kJ (c5 zB yDj zIx @zFE @zJR);show W CC 0 29 (zA 225) _ ⟨[(0,_)],[]⟩ _)
 (repeat' first|refine gA ?_|refine gT ?_ ?_<;>intro hv|fail)
 all_goals refine aJ ?_<;>exact⟨(_,_,_),⟨rfl,rfl⟩,by trivial⟩
noncomputable def zOr(v:Val):Bool×Int×Int:=(zLy v).choose
def zTh(v:Val):Om CC 225 [.t (.agg [.int .u8 v.k,.int .i64 v.n,.str v.s])] []=some (.val (.tup [.t (.bool (zOr v).1),.t (.int .u64 (zOr v).2.1),.t (.int .u64 (zOr v).2.2)]),[]):=(zLy v).choose_spec.1
def zHm(k n:Int)(s:List Nat)(k' n':Int)(s':List Nat):binop Tryz.prog .eql 49 (.t (.agg [.int .u8 k,.int .i64 n,.str s])) (.t (.agg [.int .u8 k',.int .i64 n',.str s'])) =
  some (.t (.bool (decide ((⟨k,n,s⟩:Val)=⟨k',n',s'⟩)))):=by
 have h:=zIJ 98 ⟨k,n,s⟩ ⟨k',n',s'⟩;simp only[Val.c] at h;rw[zQs _ _ _ _ zN6,h];rfl
def vT{α:Type}(a:α)(l:List α):idx (a::l) 0=some a:=rfl
def zIp(r:Int):∃x:Bool,Om CC 260 [.t (.int .i32 r)] []=some (.val (.t (.bool x)),[])∧(True):=by
 refine zJ yAm rfl ?_
 (have F_:=c2 zNT yFI;show W CC 0 17 (zA 260) _ ⟨[(0,_)],[]⟩ _)
 (repeat' first|refine gA ?_|refine gT ?_ ?_<;>intro hv|fail)
 all_goals refine aJ ?_<;>exact⟨_,⟨rfl,rfl⟩,by trivial⟩
noncomputable def zO3(r:Int):Bool:=(zIp r).choose
def zPW(r:Int):Om CC 260 [.t (.int .i32 r)] []=some (.val (.t (.bool (zO3 r))),[]):=(zIp r).choose_spec.1
def zIt(r:Int):∃x:Bool,Om CC 259 [.t (.int .i32 r)] []=some (.val (.t (.bool x)),[])∧(True):=by
 refine zJ yAL rfl ?_
 (have F_:=c2 zNT yB6;show W CC 0 9 (zA 259) _ ⟨[(0,_)],[]⟩ _)
 (repeat' first|refine gA ?_|refine gT ?_ ?_<;>intro hv|fail)
 all_goals refine aJ ?_<;>exact⟨_,⟨rfl,rfl⟩,by trivial⟩
noncomputable def zN1(r:Int):Bool:=(zIt r).choose
def zPy(r:Int):Om CC 259 [.t (.int .i32 r)] []=some (.val (.t (.bool (zN1 r))),[]):=(zIt r).choose_spec.1
def zXU{s:List Nat}{pos:Nat}(h:pos<s.length):s.length - (pos+(Utf8.decode ⟨(s.map UInt8.ofNat).toArray⟩ pos).2)<s.length - pos:=by
 have:=Lib.decode_width_pos ⟨(s.map UInt8.ofNat).toArray⟩ pos (by show pos<(s.map UInt8.ofNat).toArray.size;simpa using h);omega
def zEL (f:Nat) (hb:yX Tryz.prog f=true) (hbp:∀x,CC.prim f x=none) (F:Int→Bool) (hf:∀r:Int,Om CC f [.t (.int .i32 r)] []=some (.val (.t (.bool (F r))),[])) (s:List Nat) (tr:Bool) :
  ∃x:Int,Om CC 326 [.t (.str s),.t (.fn f),.t (.bool tr)] []=some (.val (.t (.int .i64 x)),[])∧True:=by
 refine zJ zZy rfl ?_
 (have F_:=c5 zQ zD zNT zBL yDm;show W CC 0 21 (zA 326) _ ⟨[(0,_),(1,_),(2,_)],[]⟩ _)
 (have x0_:=@zIu.eq_1;(refine gA ?_);all_goals clear x0_)
 refine zY (α:=Nat) (fun i=>⟨[(1,.t (.fn f)),(2,.t (.bool tr)),(10,.box 0 0)],[.siter s i]⟩) (fun i=>s.length - i) (fun i=>True) 0 (by kernel_rfl) trivial ?_;intro i _
 by_cases hi':i<s.length
 ·have hlt:=zXU hi'
  (have x0_:=@zGL.eq_1;(repeat' first|refine gA ?_|refine gT ?_ ?_<;>intro hv|fail);all_goals clear x0_)
  all_goals first
   |((refine aJ ?_);exact⟨_,⟨rfl,rfl⟩,trivial⟩)
   |exact zC _ hlt trivial (by kernel_rfl)
 (have x0_:=@zGL.eq_1;(refine gA ?_);all_goals clear x0_)
 (refine aJ ?_)
 exact⟨_,⟨rfl,rfl⟩,trivial⟩
def zPf(s:List Nat):∃x:Int,Om CC 326 [.t (.str s),.t (.fn 260),.t (.bool true)] []=some (.val (.t (.int .i64 x)),[])∧True :=
 zEL _ yCn (fun x=>zZ _ x (by decide)) zO3 zPW s true
noncomputable def zVv(s:List Nat):Int:=(zPf s).choose
def zPR(s:List Nat):Om CC 326 [.t (.str s),.t (.fn 260),.t (.bool true)] []=some (.val (.t (.int .i64 (zVv s))),[]):=(zPf s).choose_spec.1
def zIg(s:List Nat):∃x:Int,Om CC 294 [.t (.str s),.t (.fn 260)] []=some (.val (.t (.int .i64 x)),[])∧(True):=by
 refine zJ zMc rfl ?_
 (have F_:=c5 zQ zD zBL zNZ (c2 zOw @zPR);show W CC 0 8 (zA 294) _ ⟨[(0,_),(1,_)],[]⟩ _)
 (refine gA ?_)
 all_goals refine aJ ?_<;>exact⟨_,⟨rfl,rfl⟩,by trivial⟩
noncomputable def zVz(s:List Nat):Int:=(zIg s).choose
def zPt(s:List Nat):Om CC 294 [.t (.str s),.t (.fn 260)] []=some (.val (.t (.int .i64 (zVz s))),[]):=(zIg s).choose_spec.1
def zIy(s:List Nat):∃x:Bool,Om CC 258 [.t (.str s),.t (.fn 260)] []=some (.val (.t (.bool x)),[])∧(True):=by
 refine zJ zLY rfl ?_
 (have F_:=c5 zG zD zBL zOh (c2 zOp @zPt);show W CC 0 9 (zA 258) _ ⟨[(0,_),(1,_)],[]⟩ _)
 (refine gA ?_)
 all_goals refine aJ ?_<;>exact⟨_,⟨rfl,rfl⟩,by trivial⟩
noncomputable def zWp(s:List Nat):Bool:=(zIy s).choose
def zPz(s:List Nat):Om CC 258 [.t (.str s),.t (.fn 260)] []=some (.val (.t (.bool (zWp s))),[]):=(zIy s).choose_spec.1
def zPs(s:List Nat):∃x:Int,Om CC 326 [.t (.str s),.t (.fn 259),.t (.bool true)] []=some (.val (.t (.int .i64 x)),[])∧True :=
 zEL _ yD9 (fun x=>zZ _ x (by decide)) zN1 zPy s true
noncomputable def zTC(s:List Nat):Int:=(zPs s).choose
def zPX(s:List Nat):Om CC 326 [.t (.str s),.t (.fn 259),.t (.bool true)] []=some (.val (.t (.int .i64 (zTC s))),[]):=(zPs s).choose_spec.1
def zIn(s:List Nat):∃x:Int,Om CC 294 [.t (.str s),.t (.fn 259)] []=some (.val (.t (.int .i64 x)),[])∧(True):=by
 refine zJ zMc rfl ?_
 (have F_:=c5 zQ zD zBL zNZ (c2 zOw @zPX);show W CC 0 8 (zA 294) _ ⟨[(0,_),(1,_)],[]⟩ _)
 (refine gA ?_)
 all_goals refine aJ ?_<;>exact⟨_,⟨rfl,rfl⟩,by trivial⟩
noncomputable def zV8(s:List Nat):Int:=(zIn s).choose
def zPI(s:List Nat):Om CC 294 [.t (.str s),.t (.fn 259)] []=some (.val (.t (.int .i64 (zV8 s))),[]):=(zIn s).choose_spec.1
def zIo(s:List Nat):∃x:Bool,Om CC 258 [.t (.str s),.t (.fn 259)] []=some (.val (.t (.bool x)),[])∧(True):=by
 refine zJ zLY rfl ?_
 (have F_:=c5 zG zD zBL zOh (c2 zOp @zPI);show W CC 0 9 (zA 258) _ ⟨[(0,_),(1,_)],[]⟩ _)
 (refine gA ?_)
 all_goals refine aJ ?_<;>exact⟨_,⟨rfl,rfl⟩,by trivial⟩
noncomputable def zWz(s:List Nat):Bool:=(zIo s).choose
def zPK(s:List Nat):Om CC 258 [.t (.str s),.t (.fn 259)] []=some (.val (.t (.bool (zWz s))),[]):=(zIo s).choose_spec.1
def zKO(s:List Nat):∃x:Bool,Om CC 223 [.t (.str s)] []=some (.val (.t (.bool x)),[])∧True:=by
 refine zJ yAT rfl ?_
 (have F_:=c5 zG zQ zE zD (c5 zBL yEY zLV @zPz @vT);show W CC 0 23 (zA 223) _ ⟨[(0,_)],[]⟩ _)
 cases s with
 |nil =>
  (have x0_:=@beqL.eq_1;have x1_:=@beqL.eq_2;have x2_:=@beqL.eq_3;(refine gA ?_);all_goals clear x0_ x1_ x2_)
  all_goals refine aJ ?_<;>exact⟨_,⟨rfl,rfl⟩,trivial⟩
 |cons a l =>
  (have x0_:=@Ab.index.eq_1;have x1_:=@beqL.eq_1;have x2_:=@beqL.eq_2;have x3_:=@beqL.eq_3;(repeat' first|refine gA ?_|refine gT ?_ ?_<;>intro hv|fail);all_goals clear x0_ x1_ x2_ x3_)
  all_goals refine aJ ?_<;>exact⟨_,⟨rfl,rfl⟩,trivial⟩
noncomputable def yDT(s:List Nat):Bool:=(zKO s).choose
def zTZ(s:List Nat):Om CC 223 [.t (.str s)] []=some (.val (.t (.bool (yDT s))),[]):=(zKO s).choose_spec.1
def zLg(s:List Nat):∃x:Bool,Om CC 222 [.t (.str s)] []=some (.val (.t (.bool x)),[])∧(True):=by
 refine zJ zYW rfl ?_
 (have F_:=c5 zG zQ zD zBL (c3 yCZ zLV @zPK);show W CC 0 11 (zA 222) _ ⟨[(0,_)],[]⟩ _)
 (repeat' first|refine gA ?_|refine gT ?_ ?_<;>intro hv|fail)
 all_goals refine aJ ?_<;>exact⟨_,⟨rfl,rfl⟩,by trivial⟩
noncomputable def yCv(s:List Nat):Bool:=(zLg s).choose
def zSN(s:List Nat):Om CC 222 [.t (.str s)] []=some (.val (.t (.bool (yCv s))),[]):=(zLg s).choose_spec.1
def zO1(v:Val):∃x:Bool,Om CC 173 [.t (.agg [.int .u8 v.k,.int .i64 v.n,.str v.s])] []=some (.val (.t (.bool x)),[])∧(True):=by
 refine zJ zYq rfl ?_
 (have F_:=c5 zF zE zD zB (c5 yBV yDb yGi @zSN (c2 @zTZ @zHm));show W CC 0 51 (zA 173) _ ⟨[(0,_)],[]⟩ _)
 (repeat' first|refine gA ?_|refine gT ?_ ?_<;>intro hv|fail)
 all_goals refine aJ ?_<;>exact⟨_,⟨rfl,rfl⟩,by trivial⟩
noncomputable def MayV(v:Val):Bool:=(zO1 v).choose
def zQ8(v:Val):Om CC 173 [.t (.agg [.int .u8 v.k,.int .i64 v.n,.str v.s])] []=some (.val (.t (.bool (MayV v))),[]):=(zO1 v).choose_spec.1
def zKG(v:Val)(w:Val):∃x:Int,Om CC 228 [.t (.agg [.int .u8 v.k,.int .i64 v.n,.str v.s]),.t (.agg [.int .u8 w.k,.int .i64 w.n,.str w.s])] []=some (.val (.t (.int .i64 x)),[])∧(True):=by
 refine zJ yAf rfl ?_
 (have F_:=c5 zF zG zE zD (c5 zB zL yED yDC (c5 zU0 yGb zUa @zWh (c3 @zNr @zSM @yE3)));show W CC 0 22 (zA 228) _ ⟨[(0,_),(1,_)],[]⟩ _)
 (refine gA ?_)
 all_goals refine aJ ?_<;>exact⟨_,⟨rfl,rfl⟩,by trivial⟩
noncomputable def yDq(v:Val)(w:Val):Int:=(zKG v w).choose
def zU7(v:Val)(w:Val):Om CC 228 [.t (.agg [.int .u8 v.k,.int .i64 v.n,.str v.s]),.t (.agg [.int .u8 w.k,.int .i64 w.n,.str w.s])] []=some (.val (.t (.int .i64 (yDq v w))),[]):=(zKG v w).choose_spec.1
def zHR(v:Val)(w:Val):∃x:Int×Bool,Om CC 176 [.t (.agg [.int .u8 v.k,.int .i64 v.n,.str v.s]),.t (.agg [.int .u8 w.k,.int .i64 w.n,.str w.s])] []=some (.val (.tup [.t (.int .i64 x.1),.t (.bool x.2)]),[])∧(True):=by
 refine zJ yAe rfl ?_
 (have F_:=c5 zF zG zQ zE (c5 zD kJ zB zL (c5 yBv zT0 yBT yEl (c5 zUa yFm @zJR @zTh (c3 @zVc @yCu @zU7))));show W CC 0 65 (zA 176) _ ⟨[(0,_),(1,_)],[]⟩ _)
 (repeat' first|refine gA ?_|refine gT ?_ ?_<;>intro hv|fail)
 all_goals refine aJ ?_<;>exact⟨(_,_),⟨rfl,rfl⟩,by trivial⟩
noncomputable def zPe(v:Val)(w:Val):Int×Bool:=(zHR v w).choose
def zGg(v:Val)(w:Val):Om CC 176 [.t (.agg [.int .u8 v.k,.int .i64 v.n,.str v.s]),.t (.agg [.int .u8 w.k,.int .i64 w.n,.str w.s])] []=some (.val (.tup [.t (.int .i64 (zPe v w).1),.t (.bool (zPe v w).2)]),[]):=(zHR v w).choose_spec.1
end Go.Ab
