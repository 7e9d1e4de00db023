/- Lemmas. -/
import Derived.Test.YtdbfacakphncfaaGreatDoorG03
import Derived.Lib.RuneCount
set_option maxRecDepth 1000000
set_option maxHeartbeats 4000000
set_option linter.unusedSimpArgs false
set_option linter.unusedVariables false
namespace Go.Ab
open Go.Proofs
theorem zYr(d:Nat)(v w:Val):equal Tryz.prog (d+1+1) 23 (.agg v.c) (.agg w.c)=some (decide (v=w)):=by
 simp only[Val.c,zZp,zJD,zFb,zUx,zUy,zUE,nth,zSx _ _ _ _ _ _ zUK,zSx _ _ _ _ _ _ zUh,yCm _ _ _ _ _ zE4,yD3,Bool.and_true]
 congr 1
 obtain⟨k,n,s⟩:=v;obtain⟨k',n',s'⟩:=w;simp only[qX,Val.mk.injEq]
 by_cases h1:k=k'<;>by_cases h2:n=n'<;>by_cases h3:s=s'<;>simp [h1,h2,h3]
theorem zF3(n:Int):∃u:Int,Om CC 218 [.t (.int .i64 n)] []=some (.val (.t (.int .u64 u)),[])∧U64 u∧(R64 n→n≠0→u≠0):=by
 refine zN zXD rfl ?_
 (have F_:=c3 zK jN yCy;show W CC 0 10 (zE 218) _ ⟨[(0,_)],[]⟩ _)
 (with_reducible repeat' first|apply aA|refine aB ?_|refine aC ?_|refine aD ?_|(first|apply zB|apply zA|apply zC|apply zD)<;>intro hg<;>try with_unfolding_all cases hg;done|refine aE ?_|refine aF ?_|refine aG ?_|refine aH ?_ ?_<;>intro hv<;>try with_unfolding_all cases hv;done)
 ·(refine aJ ?_)
  refine⟨_,⟨rfl,rfl⟩,zAy _,fun h h0=>?_⟩;simp only[zCP,R64] at *;omega
 (refine aJ ?_)
 refine⟨_,⟨rfl,rfl⟩,zAy _,fun h h0=>?_⟩;simp only[zCP,R64] at *;omega
noncomputable def Size(n:Int):Int:=(zF3 n).choose
theorem zGo(n:Int):Om CC 218 [.t (.int .i64 n)] []=some (.val (.t (.int .u64 (Size n))),[]):=(zF3 n).choose_spec.1
theorem yAZ(n:Int):U64 (Size n):=(zF3 n).choose_spec.2.1
theorem zOI{n:Int}(h:R64 n)(h0:n≠0):Size n≠0:=(zF3 n).choose_spec.2.2 h h0
theorem zGb(neg:Bool)(hi:Int)(lo:Int):∃x:Int×Int,Om CC 219 [.t (.bool neg),.t (.int .u64 hi),.t (.int .u64 lo)] []=some (.val (.tup [.t (.int .i64 x.1),.t (.int .i64 x.2)]),[])∧R64 x.1:=by
 refine zN zXb rfl ?_
 (have F_:=c3 zK zR (c2 jN zXO);show W CC 0 30 (zE 219) _ ⟨[(0,_),(1,_),(2,_)],[]⟩ _)
 (with_reducible repeat' first|apply aA|refine aB ?_|refine aC ?_|refine aD ?_|(first|apply zB|apply zA|apply zC|apply zD)<;>intro hg<;>try with_unfolding_all cases hg;done|refine aE ?_|refine aF ?_|refine aG ?_|refine aH ?_ ?_<;>intro hv<;>try with_unfolding_all cases hv;done)
 all_goals refine aJ ?_
 all_goals exact⟨(_,_),⟨rfl,rfl⟩,by first|exact zGh _|(simp only[R64];decide)⟩
noncomputable def zMt(neg:Bool)(hi:Int)(lo:Int):Int×Int:=(zGb neg hi lo).choose
theorem zE0(neg:Bool)(hi:Int)(lo:Int):Om CC 219 [.t (.bool neg),.t (.int .u64 hi),.t (.int .u64 lo)] []=some (.val (.tup [.t (.int .i64 (zMt neg hi lo).1),.t (.int .i64 (zMt neg hi lo).2)]),[]):=(zGb neg hi lo).choose_spec.1
theorem zC9(neg:Bool)(hi:Int)(lo:Int):R64 (zMt neg hi lo).1:=(zGb neg hi lo).choose_spec.2
theorem zIy(a:Int)(b:Int):∃x:Int×Int,Om CC 175 [.t (.int .i64 a),.t (.int .i64 b)] []=some (.val (.tup [.t (.int .i64 x.1),.t (.int .i64 x.2)]),[])∧R64 x.1:=by
 refine zN zWC rfl ?_
 (have F_:=c3 zK zR zYx;show W CC 0 23 (zE 175) _ ⟨[(0,_),(1,_)],[]⟩ _)
 (with_reducible repeat' first|apply aA|refine aB ?_|refine aC ?_|refine aD ?_|(first|apply zB|apply zA|apply zC|apply zD)<;>intro hg<;>try with_unfolding_all cases hg;done|refine aE ?_|refine aF ?_|refine aG ?_|refine aH ?_ ?_<;>intro hv<;>try with_unfolding_all cases hv;done)
 all_goals refine aJ ?_
 all_goals exact⟨(_,_),⟨rfl,rfl⟩,by first|exact zGh _|(simp only[R64];decide)⟩
noncomputable def NAdd(a:Int)(b:Int):Int×Int:=(zIy a b).choose
theorem zOF(a:Int)(b:Int):Om CC 175 [.t (.int .i64 a),.t (.int .i64 b)] []=some (.val (.tup [.t (.int .i64 (NAdd a b).1),.t (.int .i64 (NAdd a b).2)]),[]):=(zIy a b).choose_spec.1
theorem zRs(a:Int)(b:Int):R64 (NAdd a b).1:=(zIy a b).choose_spec.2
theorem zIZ(a:Int)(b:Int):∃x:Int×Int,Om CC 176 [.t (.int .i64 a),.t (.int .i64 b)] []=some (.val (.tup [.t (.int .i64 x.1),.t (.int .i64 x.2)]),[])∧R64 x.1:=by
 refine zN zWi rfl ?_
 (have F_:=c3 zK zR zZ6;show W CC 0 23 (zE 176) _ ⟨[(0,_),(1,_)],[]⟩ _)
 (with_reducible repeat' first|apply aA|refine aB ?_|refine aC ?_|refine aD ?_|(first|apply zB|apply zA|apply zC|apply zD)<;>intro hg<;>try with_unfolding_all cases hg;done|refine aE ?_|refine aF ?_|refine aG ?_|refine aH ?_ ?_<;>intro hv<;>try with_unfolding_all cases hv;done)
 all_goals refine aJ ?_
 all_goals exact⟨(_,_),⟨rfl,rfl⟩,by first|exact zGh _|(simp only[R64];decide)⟩
noncomputable def NSub(a:Int)(b:Int):Int×Int:=(zIZ a b).choose
theorem zN9(a:Int)(b:Int):Om CC 176 [.t (.int .i64 a),.t (.int .i64 b)] []=some (.val (.tup [.t (.int .i64 (NSub a b).1),.t (.int .i64 (NSub a b).2)]),[]):=(zIZ a b).choose_spec.1
theorem zRt(a:Int)(b:Int):R64 (NSub a b).1:=(zIZ a b).choose_spec.2
theorem zHc(a b:Int):∃x:Int×Int,Om CC 217 [.t (.int .u64 a),.t (.int .u64 b)] []=some (.val (.tup [.t (.int .u64 x.1),.t (.int .u64 x.2)]),[])∧U64 x.1∧U64 x.2:=by
 refine zN zXx rfl ?_
 (have F_:=c2 jN yAS;show W CC 0 51 (zE 217) _ ⟨[(0,_),(1,_)],[]⟩ _)
 skip
 (with_reducible repeat' first|apply aA|refine aB ?_|refine aC ?_|refine aD ?_|(first|apply zB|apply zA|apply zC|apply zD)<;>intro hg<;>try with_unfolding_all cases hg;done|refine aE ?_|refine aF ?_|refine aG ?_|refine aH ?_ ?_<;>intro hv<;>try with_unfolding_all cases hv;done)
 all_goals refine aJ ?_
 all_goals exact⟨(_,_),⟨rfl,rfl⟩,zAy _,zAy _⟩
noncomputable def Mul64(a b:Int):Int×Int:=(zHc a b).choose
theorem zEj(a b:Int):Om CC 217 [.t (.int .u64 a),.t (.int .u64 b)] []=some (.val (.tup [.t (.int .u64 (Mul64 a b).1),.t (.int .u64 (Mul64 a b).2)]),[]):=(zHc a b).choose_spec.1
theorem zUU(a b:Int):U64 (Mul64 a b).1∧U64 (Mul64 a b).2:=(zHc a b).choose_spec.2
theorem zI1(a:Int)(b:Int):∃x:Int×Int,Om CC 177 [.t (.int .i64 a),.t (.int .i64 b)] []=some (.val (.tup [.t (.int .i64 x.1),.t (.int .i64 x.2)]),[])∧R64 x.1:=by
 refine zN zVh rfl ?_
 (have F_:=c5 zK zR jN yCP (c5 zJ1 zJI zGT @zGo (c2 @zE0 @zEj));show W CC 0 26 (zE 177) _ ⟨[(0,_),(1,_)],[]⟩ _)
 (with_reducible repeat' first|apply aA|refine aB ?_|refine aC ?_|refine aD ?_|(first|apply zB|apply zA|apply zC|apply zD)<;>intro hg<;>try with_unfolding_all cases hg;done|refine aE ?_|refine aF ?_|refine aG ?_|refine aH ?_ ?_<;>intro hv<;>try with_unfolding_all cases hv;done)
 all_goals refine aJ ?_
 all_goals exact⟨(_,_),⟨rfl,rfl⟩,by first|exact zGh _|exact zC9 _ _ _|(simp only[R64];decide)⟩
noncomputable def NMul(a:Int)(b:Int):Int×Int:=(zI1 a b).choose
theorem zOu(a:Int)(b:Int):Om CC 177 [.t (.int .i64 a),.t (.int .i64 b)] []=some (.val (.tup [.t (.int .i64 (NMul a b).1),.t (.int .i64 (NMul a b).2)]),[]):=(zI1 a b).choose_spec.1
theorem zRa(a:Int)(b:Int):R64 (NMul a b).1:=(zI1 a b).choose_spec.2
theorem zIA(a b:Int)(hb:R64 b):∃x:Int×Int,Om CC 179 [.t (.int .i64 a),.t (.int .i64 b)] []=some (.val (.tup [.t (.int .i64 x.1),.t (.int .i64 x.2)]),[])∧R64 x.1:=by
 refine zN zU5 rfl ?_
 (have F_:=c5 zK zR jN zYA (c5 zJ1 zJI zGT @zGo (c2 @zE0 @zEj));show W CC 0 21 (zE 179) _ ⟨[(0,_),(1,_)],[]⟩ _)
 by_cases h0:b=0
 ·subst h0
  (with_reducible repeat' first|apply aA|refine aB ?_|refine aC ?_|refine aD ?_|(first|apply zB|apply zA|apply zC|apply zD)<;>intro hg<;>try with_unfolding_all cases hg;done|refine aE ?_|refine aF ?_|refine aG ?_|refine aH ?_ ?_<;>intro hv<;>try with_unfolding_all cases hv;done)
  all_goals refine aJ ?_
  all_goals exact⟨(_,_),⟨rfl,rfl⟩,by first|exact zC9 _ _ _|(simp only[R64];decide)⟩
 have hn:=zOI hb h0;have hq:(b==0)=false:=by simpa using h0
 have h0_:=fun P t k a=>zH3 P t k a _ hn
 (with_reducible repeat' first|apply aA|refine aB ?_|refine aC ?_|refine aD ?_|(first|apply zB|apply zA|apply zC|apply zD)<;>intro hg<;>try with_unfolding_all cases hg;done|refine aE ?_|refine aF ?_|refine aG ?_|refine aH ?_ ?_<;>intro hv<;>try with_unfolding_all cases hv;done)
 all_goals refine aJ ?_
 all_goals exact⟨(_,_),⟨rfl,rfl⟩,by first|exact zC9 _ _ _|(simp only[R64];decide)⟩
theorem zIY(a b:Int)(hb:R64 b):∃x:Int×Int,Om CC 182 [.t (.int .i64 a),.t (.int .i64 b)] []=some (.val (.tup [.t (.int .i64 x.1),.t (.int .i64 x.2)]),[])∧R64 x.1:=by
 refine zN zW7 rfl ?_
 (have F_:=c5 zK zR jN yAF (c5 zJ1 zJI zGT @zGo (c2 @zE0 @zEj));show W CC 0 18 (zE 182) _ ⟨[(0,_),(1,_)],[]⟩ _)
 by_cases h0:b=0
 ·subst h0
  (with_reducible repeat' first|apply aA|refine aB ?_|refine aC ?_|refine aD ?_|(first|apply zB|apply zA|apply zC|apply zD)<;>intro hg<;>try with_unfolding_all cases hg;done|refine aE ?_|refine aF ?_|refine aG ?_|refine aH ?_ ?_<;>intro hv<;>try with_unfolding_all cases hv;done)
  all_goals refine aJ ?_
  all_goals exact⟨(_,_),⟨rfl,rfl⟩,by first|exact zC9 _ _ _|(simp only[R64];decide)⟩
 have hn:=zOI hb h0;have hq:(b==0)=false:=by simpa using h0
 have h0_:=fun P t k a=>zOk P t k a _ hn
 (with_reducible repeat' first|apply aA|refine aB ?_|refine aC ?_|refine aD ?_|(first|apply zB|apply zA|apply zC|apply zD)<;>intro hg<;>try with_unfolding_all cases hg;done|refine aE ?_|refine aF ?_|refine aG ?_|refine aH ?_ ?_<;>intro hv<;>try with_unfolding_all cases hv;done)
 all_goals refine aJ ?_
 all_goals exact⟨(_,_),⟨rfl,rfl⟩,by first|exact zC9 _ _ _|(simp only[R64];decide)⟩
open Classical in
noncomputable def NQuo(a b:Int):Int×Int:=if h:R64 b then (zIA a b h).choose else (0,0)
theorem zVr(a b:Int)(h:R64 b):Om CC 179 [.t (.int .i64 a),.t (.int .i64 b)] []=some (.val (.tup [.t (.int .i64 (NQuo a b).1),.t (.int .i64 (NQuo a b).2)]),[]):=by
 unfold NQuo;rw[dif_pos h];exact(zIA a b h).choose_spec.1
theorem yBX(a b:Int):R64 (NQuo a b).1:=by
 unfold NQuo;split
 ·rename_i h;exact(zIA a b h).choose_spec.2
 simp [R64]
open Classical in
noncomputable def NMod(a b:Int):Int×Int:=if h:R64 b then (zIY a b h).choose else (0,0)
theorem zUS(a b:Int)(h:R64 b):Om CC 182 [.t (.int .i64 a),.t (.int .i64 b)] []=some (.val (.tup [.t (.int .i64 (NMod a b).1),.t (.int .i64 (NMod a b).2)]),[]):=by
 unfold NMod;rw[dif_pos h];exact(zIY a b h).choose_spec.1
theorem zYg(a b:Int):R64 (NMod a b).1:=by
 unfold NMod;split
 ·rename_i h;exact(zIY a b h).choose_spec.2
 simp [R64]
theorem zGw(a:Int):∃x:Int×Int,Om CC 281 [.t (.int .i64 a)] []=some (.val (.tup [.t (.int .i64 x.1),.t (.int .i64 x.2)]),[])∧R64 x.1:=by
 refine zN zVO rfl ?_
 (have F_:=c3 zK zZf (c2 zP5 @zOu);show W CC 0 8 (zE 281) _ ⟨[(0,_)],[]⟩ _)
 (with_reducible repeat' first|apply aA|refine aB ?_|refine aC ?_|refine aD ?_|(first|apply zB|apply zA|apply zC|apply zD)<;>intro hg<;>try with_unfolding_all cases hg;done|refine aE ?_|refine aF ?_|refine aG ?_|refine aH ?_ ?_<;>intro hv<;>try with_unfolding_all cases hv;done)
 all_goals refine aJ ?_
 all_goals exact⟨(_,_),⟨rfl,rfl⟩,zRa _ _⟩
noncomputable def zNs(a:Int):Int×Int:=(zGw a).choose
theorem zSe(a:Int):Om CC 281 [.t (.int .i64 a)] []=some (.val (.tup [.t (.int .i64 (zNs a).1),.t (.int .i64 (zNs a).2)]),[]):=(zGw a).choose_spec.1
theorem zTs(a:Int):R64 (zNs a).1:=(zGw a).choose_spec.2
def zEt:List Nat:=[0,1,2,2,3,3,3,3,4,4,4,4,4,4,4,4,5,5,5,5,5,5,5,5,5,5,5,5,5,5,5,5,6,6,6,6,6,6,6,6,6,6,6,6,6,6,6,6,6,6,6,6,6,6,6,6,6,6,6,6,6,6,6,6,7,7,7,7,7,7,7,7,7,7,7,7,7,7,7,7,7,7,7,7,7,7,7,7,7,7,7,7,7,7,7,7,7,7,7,7,7,7,7,7,7,7,7,7,7,7,7,7,7,7,7,7,7,7,7,7,7,7,7,7,7,7,7,7,8,8,8,8,8,8,8,8,8,8,8,8,8,8,8,8,8,8,8,8,8,8,8,8,8,8,8,8,8,8,8,8,8,8,8,8,8,8,8,8,8,8,8,8,8,8,8,8,8,8,8,8,8,8,8,8,8,8,8,8,8,8,8,8,8,8,8,8,8,8,8,8,8,8,8,8,8,8,8,8,8,8,8,8,8,8,8,8,8,8,8,8,8,8,8,8,8,8,8,8,8,8,8,8,8,8,8,8,8,8,8,8,8,8,8,8,8,8,8,8,8,8,8,8,8,8,8,8]
theorem zKc:((List.range 256).all fun b=>match nth zEt b with
  |some m=>decide (m≤8)&&decide (b<2 ^ m)&&(b==0||decide (2 ^ m≤2 * b))
  |none=>false)=true:=by kernel_rfl
theorem zV5{S:List Nat}{z:Int}(hS:S=zEt)(h0:0≤z)(h1:z<256):index Tryz.prog 9 (.t (.str S)) z=some (.t (.int .u8 (((nth zEt z.toNat).getD 0:Nat):Int))):=by
 subst hS;obtain⟨b,rfl⟩:=Int.eq_ofNat_of_zero_le h0;have h:=List.all_eq_true.1 zKc b (List.mem_range.2 (by omega));unfold index;rw[zE4];simp only[idx];cases hn:nth zEt b with
 |none=>rw[hn] at h;cases h
 |some m=>simp [hn,idx]
theorem zVv{z:Int}(h0:0≤z)(h1:z<256):∃m:Nat,(nth zEt z.toNat).getD 0=m∧m≤8∧z<((2 ^ m:Nat):Int)∧(z≠0→((2 ^ m:Nat):Int)≤2 * z):=by
 obtain⟨b,rfl⟩:=Int.eq_ofNat_of_zero_le h0;have h:=List.all_eq_true.1 zKc b (List.mem_range.2 (by omega));cases hn:nth zEt b with
 |none=>rw[hn] at h;cases h
 |some m =>
  rw[hn] at h;simp only[Bool.and_eq_true,decide_eq_true_eq,Bool.or_eq_true,beq_iff_eq] at h;refine⟨m,by simp [hn],h.1.1,by omega,fun hb=>?_⟩;rcases h.2 with h2|h2
  ·omega
  omega
theorem zOR(x:Int):0≤IntKind.u8.wrap x∧IntKind.u8.wrap x<256:=by
 simp only[IntKind.wrap,IntKind.signed,IntKind.bits,Bool.false_and];simp;omega
theorem yDN{x:Int}(h0:0≤x)(h1:x<256):IntKind.u8.wrap x=x:=by
 simp only[IntKind.wrap,IntKind.signed,IntKind.bits,Bool.false_and];simp;omega
theorem zB3 (x z c:Int) (K:Nat) (hc:c=K) (hK:K≤56) (hz:z=x / ((2 ^ K:Nat):Int)) (z0:0≤z) (z1:z<256) (hx0:0≤x) (hnz:x≠0→z≠0) :
  ∃a:Int,(Out.val (AV.t (.int .i64 (IntKind.i64.wrap (c+IntKind.i64.wrap (((nth zEt z.toNat).getD 0:Nat):Int)))))=Out.val (.t (.int .i64 a))∧([]:Heap)=[]) ∧
   ∃m:Nat,a=m∧m≤64∧x<((2 ^ m:Nat):Int)∧(x≠0→((2 ^ m:Nat):Int)≤2 * x):=by
 subst hc;obtain⟨m,hm,h8,hz1,hz2⟩:=zVv z0 z1;rw[hm,wrap64 (x:=(m:Int)) (by omega) (by omega),wrap64 (by omega) (by omega)];refine⟨((K+m:Nat):Int),⟨by congr 4,rfl⟩,K+m,rfl,by omega,?_,fun h=>?_⟩
 ·rw[Nat.pow_add];have hp:(0:Int)<((2 ^ K:Nat):Int):=by
   have:=Nat.pow_pos (n:=K) (show 0<2 by decide);omega
  have h1:x<((2 ^ K:Nat):Int) * (z+1):=by rw[hz,Int.mul_add,Int.mul_one];exact Int.lt_mul_ediv_self_add hp
  have h2:((2 ^ K:Nat):Int) * (z+1)≤((2 ^ K:Nat):Int) * ((2 ^ m:Nat):Int):=Int.mul_le_mul_of_nonneg_left (by omega) (by omega)
  push_cast at *
  omega
 rw[Nat.pow_add];have hp:(0:Int)≤((2 ^ K:Nat):Int):=Int.natCast_nonneg _;have h1:((2 ^ K:Nat):Int) * z≤x:=by rw[hz];exact Int.mul_ediv_self_le (by have:=Nat.pow_pos (n:=K) (show 0<2 by decide);omega)
 have h2:((2 ^ K:Nat):Int) * ((2 ^ m:Nat):Int)≤((2 ^ K:Nat):Int) * (2 * z):=Int.mul_le_mul_of_nonneg_left (hz2 (hnz h)) hp;have h3:((2 ^ K:Nat):Int) * (2 * z)=2 * (((2 ^ K:Nat):Int) * z):=by rw[Int.mul_left_comm]
 push_cast at *
 omega
theorem zQw(x:Int)(hx:U64 x):∃n:Int,Om CC 292 [.t (.int .u64 x)] []=some (.val (.t (.int .i64 n)),[])∧∃m:Nat,n=m∧m≤64∧x<((2 ^ m:Nat):Int)∧(x≠0→((2 ^ m:Nat):Int)≤2 * x):=by
 refine zN zWO rfl ?_
 (have F_:=c5 zO zL zI jN zYV;show W CC 0 25 (zE 292) _ ⟨[(0,_)],[]⟩ _)
 have e1:IntKind.i64.wrap (32+16)=48:=by decide
 have e2:IntKind.i64.wrap (0+16)=16:=by decide
 have e3:IntKind.i64.wrap (48+8)=56:=by decide
 have e4:IntKind.i64.wrap (16+8)=24:=by decide
 have e5:IntKind.i64.wrap (32+8)=40:=by decide
 have e6:IntKind.i64.wrap (0+8)=8:=by decide
 unfold U64 at hx
 (with_reducible repeat' first|apply aA|refine aB ?_|refine aC ?_|refine aD ?_|(first|apply zB|apply zA|apply zC|apply zD)<;>intro hg<;>try with_unfolding_all cases hg;done|refine aE ?_|refine aF ?_|refine aG ?_|refine aH ?_ ?_<;>intro hv<;>try with_unfolding_all cases hv;done)
 all_goals simp only[decide_eq_true_eq,decide_eq_false_iff_not] at *
 all_goals (
  rw[zV5]
  rotate_left
  ·kernel_rfl
  ·exact(zOR _).1
  ·exact(zOR _).2
  (with_reducible repeat' first|apply aA|refine aB ?_|refine aC ?_|refine aD ?_|(first|apply zB|apply zA|apply zC|apply zD)<;>intro hg<;>try with_unfolding_all cases hg;done|refine aE ?_|refine aF ?_|refine aG ?_|refine aH ?_ ?_<;>intro hv<;>try with_unfolding_all cases hv;done)
  (refine aJ ?_)
  rw[yDN (by omega) (by omega)]
  first
  |exact zB3 x _ _ 56 (by decide) (by decide) (by omega) (by omega) (by omega) hx.1 (by omega)
  |exact zB3 x _ _ 48 (by decide) (by decide) (by omega) (by omega) (by omega) hx.1 (by omega)
  |exact zB3 x _ _ 40 (by decide) (by decide) (by omega) (by omega) (by omega) hx.1 (by omega)
  |exact zB3 x _ _ 32 (by decide) (by decide) (by omega) (by omega) (by omega) hx.1 (by omega)
  |exact zB3 x _ _ 24 (by decide) (by decide) (by omega) (by omega) (by omega) hx.1 (by omega)
  |exact zB3 x _ _ 16 (by decide) (by decide) (by omega) (by omega) (by omega) hx.1 (by omega)
  |exact zB3 x _ _ 8 (by decide) (by decide) (by omega) (by omega) (by omega) hx.1 (by omega)
  |exact zB3 x _ _ 0 (by decide) (by decide) (by omega) (by omega) (by omega) hx.1 (by omega))
theorem zSU(x:Int)(hx:U64 x):∃m:Nat,Om CC 292 [.t (.int .u64 x)] []=some (.val (.t (.int .i64 (m:Int))),[])∧m≤64∧x<((2 ^ m:Nat):Int)∧(x≠0→((2 ^ m:Nat):Int)≤2 * x):=by
 obtain⟨n,h1,m,rfl,h2⟩:=zQw x hx;exact⟨m,h1,h2⟩
theorem zTn(x:Int)(hx:U64 x):∃s:Nat,Om CC 282 [.t (.int .u64 x)] []=some (.val (.t (.int .i64 (s:Int))),[])∧s≤64 ∧
  (x≠0→9223372036854775808≤x * ((2 ^ s:Nat):Int)∧x * ((2 ^ s:Nat):Int)<18446744073709551616):=by
 obtain⟨m,hm,h1,h2,h3⟩:=zSU x hx;refine zN zVc rfl ?_
 (have F_:=c3 zO jN (c2 zXZ zYT);show W CC 0 6 (zE 282) _ ⟨[(0,_)],[]⟩ _)
 have hw:IntKind.i64.wrap (64 - (m:Int))=((64 - m:Nat):Int):=by rw[wrap64]<;>omega
 (with_reducible repeat' first|apply aA|refine aB ?_|refine aC ?_|refine aD ?_|(first|apply zB|apply zA|apply zC|apply zD)<;>intro hg<;>try with_unfolding_all cases hg;done|refine aE ?_|refine aF ?_|refine aG ?_|refine aH ?_ ?_<;>intro hv<;>try with_unfolding_all cases hv;done)
 (refine aJ ?_)
 refine⟨64 - m,⟨rfl,rfl⟩,by omega,fun h0=>?_⟩;have hp:((2 ^ m:Nat):Int) * ((2 ^ (64 - m):Nat):Int)=18446744073709551616:=by
  have:2 ^ m * 2 ^ (64 - m)=18446744073709551616:=by rw[← Nat.pow_add,show m+(64 - m)=64 by omega]
  rw[← Int.natCast_mul,this];rfl
 have hq:(0:Int)<((2 ^ (64 - m):Nat):Int):=by
  have:=Nat.pow_pos (n:=64 - m) (show 0<2 by decide);omega
 have h4:=Int.mul_le_mul_of_nonneg_right (h3 h0) (Int.le_of_lt hq);have h5:=Int.mul_lt_mul_of_pos_right h2 hq;rw[hp] at h4 h5;rw[Int.mul_assoc] at h4;omega
def zGG(r:Int):Nat:=if r<4294967296 then (4294967296 - r).toNat else 4294967297
theorem zH8{r y:Int}(hr:0≤r)(hy:1≤y)(hy2:y<4294967296)(h:IntKind.u64.wrap (r+y)<4294967296)(hu:r<18446744073709551616):zGG (IntKind.u64.wrap (r+y))<zGG r:=by
 rw[zCP] at *;unfold zGG;rw[if_pos h];split<;>omega
set_option maxHeartbeats 8000000
theorem zLR(hi lo y:Int)(h1:U64 hi)(h2:U64 lo)(h3:U64 y)(h4:hi<y):∃x:Int×Int,Om CC 252 [.t (.int .u64 hi),.t (.int .u64 lo),.t (.int .u64 y)] []=some (.val (.tup [.t (.int .u64 x.1),.t (.int .u64 x.2)]),[])∧True:=by
 refine zN zU4 rfl ?_
 (have F_:=c5 zO zBA jN yCA (c2 yCv yAx);show W CC 0 135 (zE 252) _ ⟨[(0,_),(1,_),(2,_)],[]⟩ _)
 obtain⟨s,hs,hs1,hs2⟩:=zTn y h3;have hy0:y≠0:=by unfold U64 at *;omega
 have hb1:(y==0)=false:=by simpa using hy0
 have hb2:decide (y≤hi)=false:=by simpa using h4
 have hws:IntKind.u64.wrap (s:Int)=s:=by rw[zCP];omega
 have hs0:(0:Int)≤s:=by omega
 have h64:0≤IntKind.u64.wrap (64 - (s:Int)):=(zAy _).1;have hY:IntKind.u64.wrap (y * 2 ^ min ((s:Int)).toNat IntKind.u64.bits)=y * ((2 ^ s:Nat):Int):=by
  have:min ((s:Int)).toNat IntKind.u64.bits=s:=by simp [IntKind.bits];omega
  rw[this,zCP];have:=hs2 hy0
  push_cast at *
  omega
 obtain⟨hy1,hy2⟩:=hs2 hy0;generalize y * ((2 ^ s:Nat):Int)=Y at hY hy1 hy2;have hyn:Y / 4294967296≠0:=by omega
 cases hz:(hi==0) with
 |true =>
  have h0_:=fun P t k a=>zH3 P t k a _ hy0
  have h1_:=fun P t k a=>zOk P t k a _ hy0
  (with_reducible repeat' first|apply aA|refine aB ?_|refine aC ?_|refine aD ?_|(first|apply zB|apply zA|apply zC|apply zD)<;>intro hg<;>try with_unfolding_all cases hg;done|refine aE ?_|refine aF ?_|refine aG ?_|refine aH ?_ ?_<;>intro hv<;>try with_unfolding_all cases hv;done)
  all_goals refine aJ ?_
  all_goals exact⟨(_,_),⟨rfl,rfl⟩,trivial⟩
 |false =>
  have h0_:=fun P t k k2 a=>zVy P t k k2 a _ hs0
  have h1_:=fun P t k k2 a=>zK9 P t k k2 a _ h64
  have h2_:=fun P t k a=>zH3 P t k a _ hyn
  simp only[Int.toNat_natCast] at hY
  (with_reducible repeat' first|apply aA|refine aB ?_|refine aC ?_|refine aD ?_|(first|apply zB|apply zA|apply zC|apply zD)<;>intro hg<;>try with_unfolding_all cases hg;done|refine aE ?_|refine aF ?_|refine aG ?_|refine aH ?_ ?_<;>intro hv<;>try with_unfolding_all cases hv;done)
  generalize zCz .and .u64 Y 4294967295=A;generalize IntKind.u64.wrap (lo * 2 ^ min s IntKind.u64.bits)=L;generalize zCz .and .u64 L 4294967295=D;generalize hB:zCz .or .u64 _ _=B;have hr0:U64 (IntKind.u64.wrap (B - IntKind.u64.wrap (IntKind.u64.wrap (B.tdiv (Y / 4294967296)) * (Y / 4294967296)))):=zAy _;generalize IntKind.u64.wrap (B - IntKind.u64.wrap (IntKind.u64.wrap (B.tdiv (Y / 4294967296)) * (Y / 4294967296)))=r0 at *;generalize IntKind.u64.wrap (B.tdiv (Y / 4294967296))=q0 at *;refine W.mono (Q:=fun e st=>e=.exit 0∧∃q:Int,get st.T 2=.t (.int .u64 Y)∧get st.T 8=.t (.int .u64 s)∧get st.T 9=.t (.int .u64 (Y / 4294967296))∧get st.T 10=.t (.int .u64 A)∧get st.T 11=.t (.int .u64 B) ∧
   get st.T 13=.t (.int .u64 (L / 4294967296))∧get st.T 14=.t (.int .u64 D)∧get st.T 15=.t (.int .u64 q)∧st.h=[]∧Ab.get st.T 135=.unk) ?_ ?_
  ·refine yS (α:=Int×Int) (fun a=>⟨[(2,.t (.int .u64 Y)),(8,.t (.int .u64 s)),(9,.t (.int .u64 (Y / 4294967296))),(10,.t (.int .u64 A)),(11,.t (.int .u64 B)),(13,.t (.int .u64 (L / 4294967296))),(14,.t (.int .u64 D)),(15,.t (.int .u64 a.1)),(16,.t (.int .u64 a.2))],[]⟩)
    (fun a=>zGG a.2) (fun a=>U64 a.2) (q0,r0) (by kernel_rfl) hr0 ?_
   rintro⟨q,r⟩ hr
   try dsimp only at hr
   (with_reducible repeat' first|apply aA|refine aB ?_|refine aC ?_|refine aD ?_|(first|apply zB|apply zA|apply zC|apply zD)<;>intro hg<;>try with_unfolding_all cases hg;done|refine aE ?_|refine aF ?_|refine aG ?_|refine aH ?_ ?_<;>intro hv<;>try with_unfolding_all cases hv;done)
   all_goals first
    |exact⟨rfl,_,rfl,rfl,rfl,rfl,rfl,rfl,rfl,rfl,rfl,rfl⟩
    |exact zM (IntKind.u64.wrap (q - 1),IntKind.u64.wrap (r+Y / 4294967296)) (zH8 hr.1 (by omega) (by omega) (by simpa using hv) hr.2) (zAy _) (by kernel_rfl)
  rintro e ⟨T,h⟩ ⟨rfl,q1,g2,g8,g9,g10,g11,g13,g14,g15,gh,gD⟩;dsimp only at g2 g8 g9 g10 g11 g13 g14 g15 gh gD;subst gh;have h0_:=fun P t k a=>zH3 P t k a _ hyn
  (with_reducible repeat' first|apply aA|refine aB ?_|refine aC ?_|refine aD ?_|(first|apply zB|apply zA|apply zC|apply zD)<;>intro hg<;>try with_unfolding_all cases hg;done|refine aE ?_|refine aF ?_|refine aG ?_|refine aH ?_ ?_<;>intro hv<;>try with_unfolding_all cases hv;done)
  generalize hU:IntKind.u64.wrap (IntKind.u64.wrap (IntKind.u64.wrap (B * 4294967296)+L / 4294967296) - IntKind.u64.wrap (q1 * Y))=U;have hr1:U64 (IntKind.u64.wrap (U - IntKind.u64.wrap (IntKind.u64.wrap (U.tdiv (Y / 4294967296)) * (Y / 4294967296)))):=zAy _;generalize IntKind.u64.wrap (U - IntKind.u64.wrap (IntKind.u64.wrap (U.tdiv (Y / 4294967296)) * (Y / 4294967296)))=r1 at *;generalize IntKind.u64.wrap (U.tdiv (Y / 4294967296))=q2 at *;refine W.mono (Q:=fun e st=>e=.exit 2∧∃q:Int,get st.T 2=.t (.int .u64 Y)∧get st.T 8=.t (.int .u64 s)∧get st.T 14=.t (.int .u64 D)∧get st.T 15=.t (.int .u64 q1)∧get st.T 17=.t (.int .u64 U)∧get st.T 18=.t (.int .u64 q)∧st.h=[]∧Ab.get st.T 135=.unk) ?_ ?_
  ·refine yS (α:=Int×Int) (fun a=>⟨[(2,.t (.int .u64 Y)),(8,.t (.int .u64 s)),(9,.t (.int .u64 (Y / 4294967296))),(10,.t (.int .u64 A)),(14,.t (.int .u64 D)),(15,.t (.int .u64 q1)),(16,.t (.int .u64 a.2)),(17,.t (.int .u64 U)),(18,.t (.int .u64 a.1))],[]⟩)
    (fun a=>zGG a.2) (fun a=>U64 a.2) (q2,r1) (by(simp only[yD,zU,F_,tidy,xJ,canon,reach,yK,refs,catMap,depth,renL,ren,sub,sub1,upto,mem,place,fresh,Ab.get,nth,List.map,List.zip_cons_cons,List.zip_nil_right,List.take,List.append_nil,yM,decide_true,decide_false,Nat.reduceEqDiff,g2,g8,g9,g10,g14,g15,gD]<;>exact rfl)) hr1 ?_
   rintro⟨q,r⟩ hr
   try dsimp only at hr
   (with_reducible repeat' first|apply aA|refine aB ?_|refine aC ?_|refine aD ?_|(first|apply zB|apply zA|apply zC|apply zD)<;>intro hg<;>try with_unfolding_all cases hg;done|refine aE ?_|refine aF ?_|refine aG ?_|refine aH ?_ ?_<;>intro hv<;>try with_unfolding_all cases hv;done)
   all_goals first
    |exact⟨rfl,_,rfl,rfl,rfl,rfl,rfl,rfl,rfl,rfl⟩
    |exact zM (IntKind.u64.wrap (q - 1),IntKind.u64.wrap (r+Y / 4294967296)) (zH8 hr.1 (by omega) (by omega) (by simpa using hv) hr.2) (zAy _) (by kernel_rfl)
  rintro e ⟨T',h⟩ ⟨rfl,q3,f2,f8,f14,f15,f17,f18,fh,fD⟩;dsimp only at f2 f8 f14 f15 f17 f18 fh fD;subst fh;clear g2 g8 g9 g10 g11 g13 g14 g15;have h0_:=fun P t k k2 a=>zK9 P t k k2 a _ hs0
  (with_reducible repeat' first|apply aA|refine aB ?_|refine aC ?_|refine aD ?_|(first|apply zB|apply zA|apply zC|apply zD)<;>intro hg<;>try with_unfolding_all cases hg;done|refine aE ?_|refine aF ?_|refine aG ?_|refine aH ?_ ?_<;>intro hv<;>try with_unfolding_all cases hv;done)
  refine aJ ?_ (h0:=by(show yZ 135 _=some [];simp only[yZ,Ab.get,fD]));exact⟨(_,_),⟨rfl,rfl⟩,trivial⟩
open Classical in
noncomputable def Div64(hi lo y:Int):Int×Int:=if h:U64 hi∧U64 lo∧U64 y∧hi<y then (zLR hi lo y h.1 h.2.1 h.2.2.1 h.2.2.2).choose else (0,0)
theorem zTY(hi lo y:Int)(h:U64 hi∧U64 lo∧U64 y∧hi<y):Om CC 252 [.t (.int .u64 hi),.t (.int .u64 lo),.t (.int .u64 y)] []=some (.val (.tup [.t (.int .u64 (Div64 hi lo y).1),.t (.int .u64 (Div64 hi lo y).2)]),[]):=by
 unfold Div64;rw[dif_pos h];exact(zLR hi lo y h.1 h.2.1 h.2.2.1 h.2.2.2).choose_spec.1
theorem zHq(hi lo a b d:Int):∃x:Int×Int,Om CC 251 [.t (.int .u64 hi),.t (.int .u64 lo),.box 0 0,.box 1 0,.box 2 0] [.box [.t (.int .i64 a)],.box [.t (.int .i64 b)],.box [.t (.int .i64 d)]] =
  some (.val (.tup [.t (.int .i64 x.1),.t (.int .i64 x.2)]),[.box [.t (.int .i64 a)],.box [.t (.int .i64 b)],.box [.t (.int .i64 d)]])∧R64 x.1:=by
 refine jS zVd rfl ?_
 (have F_:=c5 zK zR jN yAY (c2 zJI @zE0);show W CC 3 22 (zE 251) _ ⟨[(0,_),(1,_),(2,_),(3,_),(4,_)],[_,_,_]⟩ _)
 (with_reducible repeat' first|apply aA|refine aB ?_|refine aC ?_|refine aD ?_|(first|apply zB|apply zA|apply zC|apply zD)<;>intro hg<;>try with_unfolding_all cases hg;done|refine aE ?_|refine aF ?_|refine aG ?_|refine aH ?_ ?_<;>intro hv<;>try with_unfolding_all cases hv;done)
 (refine aJ ?_)
 exact⟨(_,_),⟨rfl,rfl⟩,zC9 _ _ _⟩
noncomputable def zPe(hi lo a b d:Int):Int×Int:=(zHq hi lo a b d).choose
theorem zS6(hi lo a b d:Int):Om CC 251 [.t (.int .u64 hi),.t (.int .u64 lo),.box 0 0,.box 1 0,.box 2 0] [.box [.t (.int .i64 a)],.box [.t (.int .i64 b)],.box [.t (.int .i64 d)]] =
  some (.val (.tup [.t (.int .i64 (zPe hi lo a b d).1),.t (.int .i64 (zPe hi lo a b d).2)]),[.box [.t (.int .i64 a)],.box [.t (.int .i64 b)],.box [.t (.int .i64 d)]]):=(zHq hi lo a b d).choose_spec.1
theorem zOO(hi lo a b d:Int):R64 (zPe hi lo a b d).1:=(zHq hi lo a b d).choose_spec.2
theorem zI0(a b d:Int):∃x:Int×Int,Om CC 220 [.t (.int .i64 a),.t (.int .i64 b),.t (.int .i64 d)] []=some (.val (.tup [.t (.int .i64 x.1),.t (.int .i64 x.2)]),[])∧R64 x.1:=by
 refine zN zVF rfl ?_
 (have F_:=c5 zK jN yCB zJ1 (c5 zGT yAn yDd @zGo (c2 @zEj @zS6));show W CC 0 61 (zE 220) _ ⟨[(0,_),(1,_),(2,_)],[]⟩ _)
 have hu:=zUU (Size a) (Size b);have hd:=yAZ d
 by_cases hlt:(Mul64 (Size a) (Size b)).1<Size d
 ·have hge:decide ((Mul64 (Size a) (Size b)).1 ≥ Size d)=false:=by simpa using hlt
  have hdiv:=zTY (Mul64 (Size a) (Size b)).1 (Mul64 (Size a) (Size b)).2 (Size d) ⟨hu.1,hu.2,hd,hlt⟩;clear hu hd
  (with_reducible repeat' first|apply aA|refine aB ?_|refine aC ?_|refine aD ?_|(first|apply zB|apply zA|apply zC|apply zD)<;>intro hg<;>try with_unfolding_all cases hg;done|refine aE ?_|refine aF ?_|refine aG ?_|refine aH ?_ ?_<;>intro hv<;>try with_unfolding_all cases hv;done)
  all_goals refine aJ ?_
  all_goals exact⟨(_,_),⟨rfl,rfl⟩,by first|exact zOO _ _ _ _ _|(simp only[R64];decide)⟩
 have hge:decide ((Mul64 (Size a) (Size b)).1 ≥ Size d)=true:=by simpa using hlt
 clear hu hd
 (with_reducible repeat' first|apply aA|refine aB ?_|refine aC ?_|refine aD ?_|(first|apply zB|apply zA|apply zC|apply zD)<;>intro hg<;>try with_unfolding_all cases hg;done|refine aE ?_|refine aF ?_|refine aG ?_|refine aH ?_ ?_<;>intro hv<;>try with_unfolding_all cases hv;done)
 all_goals refine aJ ?_
 all_goals exact⟨(_,_),⟨rfl,rfl⟩,by first|exact zOO _ _ _ _ _|(simp only[R64];decide)⟩
noncomputable def Over(a b d:Int):Int×Int:=(zI0 a b d).choose
theorem zN3(a b d:Int):Om CC 220 [.t (.int .i64 a),.t (.int .i64 b),.t (.int .i64 d)] []=some (.val (.tup [.t (.int .i64 (Over a b d).1),.t (.int .i64 (Over a b d).2)]),[]):=(zI0 a b d).choose_spec.1
theorem zSE(a b d:Int):R64 (Over a b d).1:=(zI0 a b d).choose_spec.2
theorem zFm(a b:Int):∃x:Int×Int,Om CC 178 [.t (.int .i64 a),.t (.int .i64 b)] []=some (.val (.tup [.t (.int .i64 x.1),.t (.int .i64 x.2)]),[])∧R64 x.1:=by
 refine zN zVu rfl ?_
 (have F_:=c3 zK zZV (c2 zSm @zN3);show W CC 0 11 (zE 178) _ ⟨[(0,_),(1,_)],[]⟩ _)
 (with_reducible repeat' first|apply aA|refine aB ?_|refine aC ?_|refine aD ?_|(first|apply zB|apply zA|apply zC|apply zD)<;>intro hg<;>try with_unfolding_all cases hg;done|refine aE ?_|refine aF ?_|refine aG ?_|refine aH ?_ ?_<;>intro hv<;>try with_unfolding_all cases hv;done)
 all_goals refine aJ ?_
 all_goals exact⟨(_,_),⟨rfl,rfl⟩,by first|exact zSE _ _ _|(simp only[R64];decide)⟩
noncomputable def zHS(a b:Int):Int×Int:=(zFm a b).choose
theorem zPd(a b:Int):Om CC 178 [.t (.int .i64 a),.t (.int .i64 b)] []=some (.val (.tup [.t (.int .i64 (zHS a b).1),.t (.int .i64 (zHS a b).2)]),[]):=(zFm a b).choose_spec.1
theorem zSC(a b:Int):R64 (zHS a b).1:=(zFm a b).choose_spec.2
theorem zFs(a b:Int):∃x:Int×Int,Om CC 180 [.t (.int .i64 a),.t (.int .i64 b)] []=some (.val (.tup [.t (.int .i64 x.1),.t (.int .i64 x.2)]),[])∧R64 x.1:=by
 refine zN zWS rfl ?_
 (have F_:=c3 zK yAQ (c2 zSm @zN3);show W CC 0 13 (zE 180) _ ⟨[(0,_),(1,_)],[]⟩ _)
 (with_reducible repeat' first|apply aA|refine aB ?_|refine aC ?_|refine aD ?_|(first|apply zB|apply zA|apply zC|apply zD)<;>intro hg<;>try with_unfolding_all cases hg;done|refine aE ?_|refine aF ?_|refine aG ?_|refine aH ?_ ?_<;>intro hv<;>try with_unfolding_all cases hv;done)
 all_goals refine aJ ?_
 all_goals exact⟨(_,_),⟨rfl,rfl⟩,by first|exact zSE _ _ _|(simp only[R64];decide)⟩
noncomputable def zH5(a b:Int):Int×Int:=(zFs a b).choose
theorem zO8(a b:Int):Om CC 180 [.t (.int .i64 a),.t (.int .i64 b)] []=some (.val (.tup [.t (.int .i64 (zH5 a b).1),.t (.int .i64 (zH5 a b).2)]),[]):=(zFs a b).choose_spec.1
theorem zQe(a b:Int):R64 (zH5 a b).1:=(zFs a b).choose_spec.2
theorem uQ:R64 0:=by simp only[R64];decide
theorem yDy:R64 1:=by simp only[R64];decide
def VOK(v:Val):Prop:=R64 v.n∧v.s.length<4294967281
theorem xI{n:Int}(k:Int)(h:R64 n):VOK ⟨k,n,[]⟩:=⟨h,by simp⟩
def Zero:Val:=⟨0,0,[]⟩
theorem xE:VOK Zero:=xI 0 uQ
theorem zJY(a:Int):∃x:Bool,Om CC 244 [.t (.int .u64 a)] []=some (.val (.t (.bool x)),[])∧(True):=by
 refine zN zVA rfl ?_
 (have F_:=c2 jN zZm;show W CC 0 6 (zE 244) _ ⟨[(0,_)],[]⟩ _)
 (with_reducible repeat' first|apply aA|refine aB ?_|refine aC ?_|refine aD ?_|(first|apply zB|apply zA|apply zC|apply zD)<;>intro hg<;>try with_unfolding_all cases hg;done|refine aE ?_|refine aF ?_|refine aG ?_|refine aH ?_ ?_<;>intro hv<;>try with_unfolding_all cases hv;done)
 all_goals refine aJ ?_
 all_goals exact⟨_,⟨rfl,rfl⟩,by trivial⟩
noncomputable def yBT(a:Int):Bool:=(zJY a).choose
theorem zR7(a:Int):Om CC 244 [.t (.int .u64 a)] []=some (.val (.t (.bool (yBT a))),[]):=(zJY a).choose_spec.1
theorem zKo(a:Int)(b:Int):∃x:Int,Om CC 212 [.t (.int .u64 a),.t (.int .u64 b)] []=some (.val (.t (.int .i64 x)),[])∧(True):=by
 refine zN zVK rfl ?_
 (have F_:=c3 jN zZ0 (c2 yC5 @zR7);show W CC 0 20 (zE 212) _ ⟨[(0,_),(1,_)],[]⟩ _)
 (with_reducible repeat' first|apply aA|refine aB ?_|refine aC ?_|refine aD ?_|(first|apply zB|apply zA|apply zC|apply zD)<;>intro hg<;>try with_unfolding_all cases hg;done|refine aE ?_|refine aF ?_|refine aG ?_|refine aH ?_ ?_<;>intro hv<;>try with_unfolding_all cases hv;done)
 all_goals refine aJ ?_
 all_goals exact⟨_,⟨rfl,rfl⟩,by trivial⟩
noncomputable def yCj(a:Int)(b:Int):Int:=(zKo a b).choose
theorem zSw(a:Int)(b:Int):Om CC 212 [.t (.int .u64 a),.t (.int .u64 b)] []=some (.val (.t (.int .i64 (yCj a b))),[]):=(zKo a b).choose_spec.1
theorem zJp(a:Int):∃x:Bool,Om CC 253 [.t (.int .i64 a)] []=some (.val (.t (.bool x)),[])∧(True):=by
 refine zN zXe rfl ?_
 (have F_:=c2 zK zY6;show W CC 0 6 (zE 253) _ ⟨[(0,_)],[]⟩ _)
 (with_reducible repeat' first|apply aA|refine aB ?_|refine aC ?_|refine aD ?_|(first|apply zB|apply zA|apply zC|apply zD)<;>intro hg<;>try with_unfolding_all cases hg;done|refine aE ?_|refine aF ?_|refine aG ?_|refine aH ?_ ?_<;>intro hv<;>try with_unfolding_all cases hv;done)
 all_goals refine aJ ?_
 all_goals exact⟨_,⟨rfl,rfl⟩,by trivial⟩
noncomputable def zZZ(a:Int):Bool:=(zJp a).choose
theorem zQt(a:Int):Om CC 253 [.t (.int .i64 a)] []=some (.val (.t (.bool (zZZ a))),[]):=(zJp a).choose_spec.1
theorem zJW(a:Int)(b:Int):∃x:Int,Om CC 221 [.t (.int .i64 a),.t (.int .i64 b)] []=some (.val (.t (.int .i64 x)),[])∧(True):=by
 refine zN zVE rfl ?_
 (have F_:=c3 zK yCr (c2 yCS @zQt);show W CC 0 20 (zE 221) _ ⟨[(0,_),(1,_)],[]⟩ _)
 (with_reducible repeat' first|apply aA|refine aB ?_|refine aC ?_|refine aD ?_|(first|apply zB|apply zA|apply zC|apply zD)<;>intro hg<;>try with_unfolding_all cases hg;done|refine aE ?_|refine aF ?_|refine aG ?_|refine aH ?_ ?_<;>intro hv<;>try with_unfolding_all cases hv;done)
 all_goals refine aJ ?_
 all_goals exact⟨_,⟨rfl,rfl⟩,by trivial⟩
noncomputable def yBV(a:Int)(b:Int):Int:=(zJW a b).choose
theorem zLn(a:Int)(b:Int):Om CC 221 [.t (.int .i64 a),.t (.int .i64 b)] []=some (.val (.t (.int .i64 (yBV a b))),[]):=(zJW a b).choose_spec.1
theorem zLT(a:Int):∃x:Bool,Om CC 278 [.t (.int .u8 a)] []=some (.val (.t (.bool x)),[])∧(True):=by
 refine zN zXH rfl ?_
 (have F_:=c2 zL zZw;show W CC 0 6 (zE 278) _ ⟨[(0,_)],[]⟩ _)
 (with_reducible repeat' first|apply aA|refine aB ?_|refine aC ?_|refine aD ?_|(first|apply zB|apply zA|apply zC|apply zD)<;>intro hg<;>try with_unfolding_all cases hg;done|refine aE ?_|refine aF ?_|refine aG ?_|refine aH ?_ ?_<;>intro hv<;>try with_unfolding_all cases hv;done)
 all_goals refine aJ ?_
 all_goals exact⟨_,⟨rfl,rfl⟩,by trivial⟩
noncomputable def yEf(a:Int):Bool:=(zLT a).choose
theorem zSM(a:Int):Om CC 278 [.t (.int .u8 a)] []=some (.val (.t (.bool (yEf a))),[]):=(zLT a).choose_spec.1
theorem zLd(a:Int)(b:Int):∃x:Int,Om CC 245 [.t (.int .u8 a),.t (.int .u8 b)] []=some (.val (.t (.int .i64 x)),[])∧(True):=by
 refine zN zUV rfl ?_
 (have F_:=c3 zL yBi (c2 zX7 @zSM);show W CC 0 20 (zE 245) _ ⟨[(0,_),(1,_)],[]⟩ _)
 (with_reducible repeat' first|apply aA|refine aB ?_|refine aC ?_|refine aD ?_|(first|apply zB|apply zA|apply zC|apply zD)<;>intro hg<;>try with_unfolding_all cases hg;done|refine aE ?_|refine aF ?_|refine aG ?_|refine aH ?_ ?_<;>intro hv<;>try with_unfolding_all cases hv;done)
 all_goals refine aJ ?_
 all_goals exact⟨_,⟨rfl,rfl⟩,by trivial⟩
noncomputable def yEc(a:Int)(b:Int):Int:=(zLd a b).choose
theorem zTu(a:Int)(b:Int):Om CC 245 [.t (.int .u8 a),.t (.int .u8 b)] []=some (.val (.t (.int .i64 (yEc a b))),[]):=(zLd a b).choose_spec.1
theorem zJz(a:List Nat):∃x:Bool,Om CC 279 [.t (.str a)] []=some (.val (.t (.bool x)),[])∧(True):=by
 refine zN zWn rfl ?_
 (have F_:=c2 zI zX6;show W CC 0 6 (zE 279) _ ⟨[(0,_)],[]⟩ _)
 (with_reducible repeat' first|apply aA|refine aB ?_|refine aC ?_|refine aD ?_|(first|apply zB|apply zA|apply zC|apply zD)<;>intro hg<;>try with_unfolding_all cases hg;done|refine aE ?_|refine aF ?_|refine aG ?_|refine aH ?_ ?_<;>intro hv<;>try with_unfolding_all cases hv;done)
 all_goals refine aJ ?_
 all_goals exact⟨_,⟨rfl,rfl⟩,by trivial⟩
noncomputable def yAu(a:List Nat):Bool:=(zJz a).choose
theorem zSp(a:List Nat):Om CC 279 [.t (.str a)] []=some (.val (.t (.bool (yAu a))),[]):=(zJz a).choose_spec.1
theorem zJl(a:List Nat)(b:List Nat):∃x:Int,Om CC 246 [.t (.str a),.t (.str b)] []=some (.val (.t (.int .i64 x)),[])∧(True):=by
 refine zN zWc rfl ?_
 (have F_:=c3 zI zZN (c2 yA5 @zSp);show W CC 0 20 (zE 246) _ ⟨[(0,_),(1,_)],[]⟩ _)
 (with_reducible repeat' first|apply aA|refine aB ?_|refine aC ?_|refine aD ?_|(first|apply zB|apply zA|apply zC|apply zD)<;>intro hg<;>try with_unfolding_all cases hg;done|refine aE ?_|refine aF ?_|refine aG ?_|refine aH ?_ ?_<;>intro hv<;>try with_unfolding_all cases hv;done)
 all_goals refine aJ ?_
 all_goals exact⟨_,⟨rfl,rfl⟩,by trivial⟩
noncomputable def yBO(a:List Nat)(b:List Nat):Int:=(zJl a b).choose
theorem zRQ(a:List Nat)(b:List Nat):Om CC 246 [.t (.str a),.t (.str b)] []=some (.val (.t (.int .i64 (yBO a b))),[]):=(zJl a b).choose_spec.1
theorem zLx(l:List Int)(nl cl:Bool)(hl:l.length<9223372036854775808):∃x:Int,Om CC 211 [.t (.sl nl cl (l.map intC))] []=some (.val (.t (.int .i64 x)),[])∧True:=by
 refine zN zWx rfl ?_
 (have F_:=c3 zO zY zZb;show W CC 0 18 (zE 211) _ ⟨[(0,_)],[]⟩ _)
 (with_reducible repeat' first|apply aA|refine aB ?_|refine aC ?_|refine aD ?_|(first|apply zB|apply zA|apply zC|apply zD)<;>intro hg<;>try with_unfolding_all cases hg;done|refine aE ?_|refine aF ?_|refine aG ?_|refine aH ?_ ?_<;>intro hv<;>try with_unfolding_all cases hv;done)
 refine yS (α:=Nat) (fun i=>⟨[(3,.t (.int .i64 0)),(6,.t (.sl nl cl (l.map intC))),(7,.t (.int .i64 l.length)),(8,.t (.int .i64 i))],[]⟩) (fun i=>l.length - i) (fun i=>i≤l.length) 0 (by kernel_rfl) (Nat.zero_le _) ?_;intro i hi
 by_cases hi':i<l.length
 ·have hw:IntKind.i64.wrap ((i:Int)+1)=((i+1:Nat):Int):=by rw[wrap64]<;>omega
  have he:l[i]?=some l[i]:=List.getElem?_eq_getElem hi';have hd:decide ((i:Int)<l.length)=true:=by simpa using hi'
  (with_reducible repeat' first|apply aA|refine aB ?_|refine aC ?_|refine aD ?_|(first|apply zB|apply zA|apply zC|apply zD)<;>intro hg<;>try with_unfolding_all cases hg;done|refine aE ?_|refine aF ?_|refine aG ?_|refine aH ?_ ?_<;>intro hv<;>try with_unfolding_all cases hv;done)
  all_goals first
   |((refine aJ ?_);exact⟨_,⟨rfl,rfl⟩,trivial⟩)
   |exact zM (i+1) (by omega) (by omega) (by kernel_rfl)
 have hd:decide ((i:Int)<l.length)=false:=by simpa using hi'
 (with_reducible repeat' first|apply aA|refine aB ?_|refine aC ?_|refine aD ?_|(first|apply zB|apply zA|apply zC|apply zD)<;>intro hg<;>try with_unfolding_all cases hg;done|refine aE ?_|refine aF ?_|refine aG ?_|refine aH ?_ ?_<;>intro hv<;>try with_unfolding_all cases hv;done)
 (refine aJ ?_)
 exact⟨_,⟨rfl,rfl⟩,trivial⟩
theorem zRZ(a b c:Int):∃x:Int,Om CC 211 [.t (.sl false false [[.int .i64 a],[.int .i64 b],[.int .i64 c]])] []=some (.val (.t (.int .i64 x)),[]):=by
 obtain⟨x,h,_⟩:=zLx [a,b,c] false false (by simp);exact⟨x,h⟩
noncomputable def Or3(a b c:Int):Int:=(zRZ a b c).choose
theorem zXN(a b c:Int):Om CC 211 [.t (.sl false false [[.int .i64 a],[.int .i64 b],[.int .i64 c]])] []=some (.val (.t (.int .i64 (Or3 a b c))),[]):=(zRZ a b c).choose_spec
theorem zRT(a b:Int):∃x:Int,Om CC 211 [.t (.sl false false [[.int .i64 a],[.int .i64 b]])] []=some (.val (.t (.int .i64 x)),[]):=by
 obtain⟨x,h,_⟩:=zLx [a,b] false false (by simp);exact⟨x,h⟩
noncomputable def Or2(a b:Int):Int:=(zRT a b).choose
theorem yCg(a b:Int):Om CC 211 [.t (.sl false false [[.int .i64 a],[.int .i64 b]])] []=some (.val (.t (.int .i64 (Or2 a b))),[]):=(zRT a b).choose_spec
theorem zL6(v:Val):∃x:Bool,Om CC 209 [.t (.agg [.int .u8 v.k,.int .i64 v.n,.str v.s])] []=some (.val (.t (.bool x)),[])∧(True):=by
 refine zN zW6 rfl ?_
 (have F_:=c5 zK zL zI zH zYK;show W CC 0 11 (zE 209) _ ⟨[(0,_)],[]⟩ _)
 (with_reducible repeat' first|apply aA|refine aB ?_|refine aC ?_|refine aD ?_|(first|apply zB|apply zA|apply zC|apply zD)<;>intro hg<;>try with_unfolding_all cases hg;done|refine aE ?_|refine aF ?_|refine aG ?_|refine aH ?_ ?_<;>intro hv<;>try with_unfolding_all cases hv;done)
 all_goals refine aJ ?_
 all_goals exact⟨_,⟨rfl,rfl⟩,by trivial⟩
noncomputable def yDH(v:Val):Bool:=(zL6 v).choose
theorem zIH(v:Val):Om CC 209 [.t (.agg [.int .u8 v.k,.int .i64 v.n,.str v.s])] []=some (.val (.t (.bool (yDH v))),[]):=(zL6 v).choose_spec.1
theorem zGf(b:Bool):∃x:Val,Om CC 87 [.t (.bool b)] []=some (.val (.t (.agg [.int .u8 x.k,.int .i64 x.n,.str x.s])),[])∧(VOK x):=by
 refine zN zNm rfl ?_
 (have F_:=c5 zK zR zL zI (c2 zH zPK);show W CC 0 6 (zE 87) _ ⟨[(0,_)],[]⟩ _)
 (with_reducible repeat' first|apply aA|refine aB ?_|refine aC ?_|refine aD ?_|(first|apply zB|apply zA|apply zC|apply zD)<;>intro hg<;>try with_unfolding_all cases hg;done|refine aE ?_|refine aF ?_|refine aG ?_|refine aH ?_ ?_<;>intro hv<;>try with_unfolding_all cases hv;done)
 all_goals refine aJ ?_
 all_goals exact⟨⟨_,_,_⟩,⟨rfl,rfl⟩,by first|exact xI _ yDy|exact xI _ uQ⟩
noncomputable def qC(b:Bool):Val:=(zGf b).choose
theorem qZ(b:Bool):Om CC 87 [.t (.bool b)] []=some (.val (.t (.agg [.int .u8 (qC b).k,.int .i64 (qC b).n,.str (qC b).s])),[]):=(zGf b).choose_spec.1
theorem zBV(b:Bool):VOK (qC b):=(zGf b).choose_spec.2
theorem zIG(v:Val):∃x:Val,Om CC 88 [.t (.agg [.int .u8 v.k,.int .i64 v.n,.str v.s])] []=some (.val (.t (.agg [.int .u8 x.k,.int .i64 x.n,.str x.s])),[])∧(VOK x):=by
 refine zN zSs rfl ?_
 (have F_:=c5 zK zR zL zI (c3 zH zUm (c2 zDk @qZ));show W CC 0 11 (zE 88) _ ⟨[(0,_)],[]⟩ _)
 (with_reducible repeat' first|apply aA|refine aB ?_|refine aC ?_|refine aD ?_|(first|apply zB|apply zA|apply zC|apply zD)<;>intro hg<;>try with_unfolding_all cases hg;done|refine aE ?_|refine aF ?_|refine aG ?_|refine aH ?_ ?_<;>intro hv<;>try with_unfolding_all cases hv;done)
 all_goals refine aJ ?_
 all_goals exact⟨⟨_,_,_⟩,⟨rfl,rfl⟩,by first|exact xE|exact zBV _⟩
noncomputable def NotV(v:Val):Val:=(zIG v).choose
theorem zFD(v:Val):Om CC 88 [.t (.agg [.int .u8 v.k,.int .i64 v.n,.str v.s])] []=some (.val (.t (.agg [.int .u8 (NotV v).k,.int .i64 (NotV v).n,.str (NotV v).s])),[]):=(zIG v).choose_spec.1
theorem zFL(v:Val):VOK (NotV v):=(zIG v).choose_spec.2
theorem zJo(v:Val):∃x:Bool×Int×Int,Om CC 210 [.t (.agg [.int .u8 v.k,.int .i64 v.n,.str v.s])] []=some (.val (.tup [.t (.bool x.1),.t (.int .u64 x.2.1),.t (.int .u64 x.2.2)]),[])∧(True):=by
 refine zN zUY rfl ?_
 (have F_:=c5 zK zL zI zH (c5 jN yCR zGT @zEj @zIH);show W CC 0 29 (zE 210) _ ⟨[(0,_)],[]⟩ _)
 (with_reducible repeat' first|apply aA|refine aB ?_|refine aC ?_|refine aD ?_|(first|apply zB|apply zA|apply zC|apply zD)<;>intro hg<;>try with_unfolding_all cases hg;done|refine aE ?_|refine aF ?_|refine aG ?_|refine aH ?_ ?_<;>intro hv<;>try with_unfolding_all cases hv;done)
 all_goals refine aJ ?_
 all_goals exact⟨(_,_,_),⟨rfl,rfl⟩,by trivial⟩
noncomputable def zMU(v:Val):Bool×Int×Int:=(zJo v).choose
theorem zSD(v:Val):Om CC 210 [.t (.agg [.int .u8 v.k,.int .i64 v.n,.str v.s])] []=some (.val (.tup [.t (.bool (zMU v).1),.t (.int .u64 (zMU v).2.1),.t (.int .u64 (zMU v).2.2)]),[]):=(zJo v).choose_spec.1
theorem zGg(k n:Int)(s:List Nat)(k' n':Int)(s':List Nat):binop Tryz.prog .eql 23 (.t (.agg [.int .u8 k,.int .i64 n,.str s])) (.t (.agg [.int .u8 k',.int .i64 n',.str s'])) =
  some (.t (.bool (decide ((⟨k,n,s⟩:Val)=⟨k',n',s'⟩)))):=by
 have h:=zYr 98 ⟨k,n,s⟩ ⟨k',n',s'⟩;simp only[Val.c] at h;rw[zWI _ _ _ _ zYz,h];rfl
theorem qV{α:Type}(a:α)(l:List α):idx (a::l) 0=some a:=rfl
theorem zGR(r:Int):∃x:Bool,Om CC 243 [.t (.int .i32 r)] []=some (.val (.t (.bool x)),[])∧(True):=by
 refine zN zVC rfl ?_
 (have F_:=c2 zMj zY7;show W CC 0 17 (zE 243) _ ⟨[(0,_)],[]⟩ _)
 (with_reducible repeat' first|apply aA|refine aB ?_|refine aC ?_|refine aD ?_|(first|apply zB|apply zA|apply zC|apply zD)<;>intro hg<;>try with_unfolding_all cases hg;done|refine aE ?_|refine aF ?_|refine aG ?_|refine aH ?_ ?_<;>intro hv<;>try with_unfolding_all cases hv;done)
 all_goals refine aJ ?_
 all_goals exact⟨_,⟨rfl,rfl⟩,by trivial⟩
noncomputable def zNg(r:Int):Bool:=(zGR r).choose
theorem zNN(r:Int):Om CC 243 [.t (.int .i32 r)] []=some (.val (.t (.bool (zNg r))),[]):=(zGR r).choose_spec.1
theorem zHo(r:Int):∃x:Bool,Om CC 242 [.t (.int .i32 r)] []=some (.val (.t (.bool x)),[])∧(True):=by
 refine zN zU9 rfl ?_
 (have F_:=c2 zMj zYy;show W CC 0 9 (zE 242) _ ⟨[(0,_)],[]⟩ _)
 (with_reducible repeat' first|apply aA|refine aB ?_|refine aC ?_|refine aD ?_|(first|apply zB|apply zA|apply zC|apply zD)<;>intro hg<;>try with_unfolding_all cases hg;done|refine aE ?_|refine aF ?_|refine aG ?_|refine aH ?_ ?_<;>intro hv<;>try with_unfolding_all cases hv;done)
 all_goals refine aJ ?_
 all_goals exact⟨_,⟨rfl,rfl⟩,by trivial⟩
noncomputable def zNv(r:Int):Bool:=(zHo r).choose
theorem zNG(r:Int):Om CC 242 [.t (.int .i32 r)] []=some (.val (.t (.bool (zNv r))),[]):=(zHo r).choose_spec.1
theorem zVN{s:List Nat}{pos:Nat}(h:pos<s.length):s.length - (pos+(Utf8.decode ⟨(s.map UInt8.ofNat).toArray⟩ pos).2)<s.length - pos:=by
 have:=Lib.decode_width_pos ⟨(s.map UInt8.ofNat).toArray⟩ pos (by show pos<(s.map UInt8.ofNat).toArray.size;simpa using h);omega
theorem zDO (f:Nat) (hb:zF Tryz.prog f=true) (hbp:∀x,CC.prim f x=none) (F:Int→Bool) (hf:∀r:Int,Om CC f [.t (.int .i32 r)] []=some (.val (.t (.bool (F r))),[])) (s:List Nat) (tr:Bool) :
  ∃x:Int,Om CC 285 [.t (.str s),.t (.fn f),.t (.bool tr)] []=some (.val (.t (.int .i64 x)),[])∧True:=by
 refine zN zVM rfl ?_
 (have F_:=c5 zR zI zMj zBf yAM;show W CC 0 21 (zE 285) _ ⟨[(0,_),(1,_),(2,_)],[]⟩ _)
 repeat' (first|(with_reducible first|apply aA|apply xK|apply wA|apply vA|apply vB|apply xC|apply wJ|apply xT|apply wI|apply xD|apply wZ)|(refine wY (by kernel_rfl) ?_)|(with_reducible first|apply wH|apply wF|apply xS|apply wC|apply wB|apply uD|apply vQ|apply vP|apply uT|apply kG|apply uU|apply vO)|((with_reducible apply zA5);(focus kernel_rfl))|((with_reducible apply zAV);(focus kernel_rfl);(focus kernel_rfl))|(with_reducible first|apply qK|apply qF)|((with_reducible apply qO);(refine⟨by kernel_rfl,?_⟩))|((with_reducible refine zB (fun hg=>?_) (fun hg=>?_))<;>first|(cases hg;done)|skip)|((with_reducible refine zA (fun hg=>?_) (fun hg=>?_))<;>first|(cases hg;done)|skip)|((with_reducible refine zC (fun hg=>?_) (fun hg=>?_))<;>first|(cases hg;done)|skip)|((with_reducible refine zD (fun hg=>?_) (fun hg=>?_))<;>first|(cases hg;done)|skip)|((with_reducible apply zAn);(focus (simp only[zHA,wanted,exec1,zJ,get,putT,ret,lit,lit1,patch,put1,uZ,List.length_nil,vC,vI,qA,one1,vY, *];exact rfl)))|((with_reducible apply zAm);(focus (simp only[*];exact rfl)))|((refine qQ (by(simp only[zJ,lit,lit1, *];exact rfl)) (fun hv=>?_) (fun hv=>?_))<;>first|(cases hv;done)|skip))
 refine yS (α:=Nat) (fun i=>⟨[(1,.t (.fn f)),(2,.t (.bool tr)),(10,.box 0 0)],[.siter s i]⟩) (fun i=>s.length - i) (fun i=>True) 0 (by kernel_rfl) trivial ?_;intro i _
 by_cases hi':i<s.length
 ·have hlt:=zVN hi'
  repeat' (first|(with_reducible first|apply aA|apply xK|apply wA|apply vA|apply vB|apply xC|apply wJ|apply xT|apply wI|apply xD|apply wZ)|(refine wY (by kernel_rfl) ?_)|(with_reducible first|apply wH|apply wF|apply xS|apply wC|apply wB|apply uD|apply vQ|apply vP|apply uT|apply kG|apply uU|apply vO)|((with_reducible apply zA5);(focus kernel_rfl))|((with_reducible apply zAV);(focus kernel_rfl);(focus kernel_rfl))|(with_reducible first|apply qK|apply qF)|((with_reducible apply qO);(refine⟨by kernel_rfl,?_⟩))|((with_reducible refine zB (fun hg=>?_) (fun hg=>?_))<;>first|(cases hg;done)|skip)|((with_reducible refine zA (fun hg=>?_) (fun hg=>?_))<;>first|(cases hg;done)|skip)|((with_reducible refine zC (fun hg=>?_) (fun hg=>?_))<;>first|(cases hg;done)|skip)|((with_reducible refine zD (fun hg=>?_) (fun hg=>?_))<;>first|(cases hg;done)|skip)|((with_reducible apply zAn);(focus (simp only[zFP,uN,vX,wG,reach,yK,refs,catMap,depth,sub,sub1,renL,ren,mem,place,fresh,yW,plain,uK,view,yE,yH,vR,cond_false,Int.ofNat_eq_natCast,wanted,exec1,kO,uN,zJ,opds,get,putT,ret,retO,patch,put1,nth,upd,uZ,zIM,List.map_cons,List.map_nil,List.append_nil,if_true,vX,wG,reach,yK,refs,catMap,depth,sub,sub1,renL,ren,mem,place,fresh,yW,plain,uK,view,yE,yH,vR,cond_false,vC,vI,qA,one1,vY,jA,jU, *];exact rfl)))|((with_reducible apply zAm);(focus (simp only[*];exact rfl)))|((refine qQ (by(simp only[zJ,get,lit,lit1, *];exact rfl)) (fun hv=>?_) (fun hv=>?_))<;>first|(cases hv;done)|skip))
  all_goals first
   |((refine aJ ?_);exact⟨_,⟨rfl,rfl⟩,trivial⟩)
   |exact zM _ hlt trivial (by kernel_rfl)
 repeat' (first|(with_reducible first|apply aA|apply xK|apply wA|apply vA|apply vB|apply xC|apply wJ|apply xT|apply wI|apply xD|apply wZ)|(refine wY (by kernel_rfl) ?_)|(with_reducible first|apply wH|apply wF|apply xS|apply wC|apply wB|apply uD|apply vQ|apply vP|apply uT|apply kG|apply uU|apply vO)|((with_reducible apply zA5);(focus kernel_rfl))|((with_reducible apply zAV);(focus kernel_rfl);(focus kernel_rfl))|(with_reducible first|apply qK|apply qF)|((with_reducible apply qO);(refine⟨by kernel_rfl,?_⟩))|((with_reducible refine zB (fun hg=>?_) (fun hg=>?_))<;>first|(cases hg;done)|skip)|((with_reducible refine zA (fun hg=>?_) (fun hg=>?_))<;>first|(cases hg;done)|skip)|((with_reducible refine zC (fun hg=>?_) (fun hg=>?_))<;>first|(cases hg;done)|skip)|((with_reducible refine zD (fun hg=>?_) (fun hg=>?_))<;>first|(cases hg;done)|skip)|((with_reducible apply zAn);(focus (simp only[zFP,uN,Int.ofNat_eq_natCast,wanted,exec1,uN,zJ,get,putT,ret,retO,lit,lit1,patch,nth,if_false,vC,vI,qA,one1,vY, *];exact rfl)))|((with_reducible apply zAm);(focus (simp only[*];exact rfl)))|((refine qQ (by(simp only[zJ,get,lit,lit1, *];exact rfl)) (fun hv=>?_) (fun hv=>?_))<;>first|(cases hv;done)|skip))
 (refine aJ ?_)
 exact⟨_,⟨rfl,rfl⟩,trivial⟩
theorem zMB(s:List Nat):∃x:Int,Om CC 285 [.t (.str s),.t (.fn 243),.t (.bool true)] []=some (.val (.t (.int .i64 x)),[])∧True :=
 zDO _ yCE (fun x=>zZ _ x (by decide)) zNg zNN s true
noncomputable def zRJ(s:List Nat):Int:=(zMB s).choose
theorem zNW(s:List Nat):Om CC 285 [.t (.str s),.t (.fn 243),.t (.bool true)] []=some (.val (.t (.int .i64 (zRJ s))),[]):=(zMB s).choose_spec.1
theorem zHy(s:List Nat):∃x:Int,Om CC 263 [.t (.str s),.t (.fn 243)] []=some (.val (.t (.int .i64 x)),[])∧(True):=by
 refine zN zKG rfl ?_
 (have F_:=c5 zR zI zBf zNr (c2 zMs @zNW);show W CC 0 8 (zE 263) _ ⟨[(0,_),(1,_)],[]⟩ _)
 (with_reducible repeat' first|apply aA|refine aB ?_|refine aC ?_|refine aD ?_|(first|apply zB|apply zA|apply zC|apply zD)<;>intro hg<;>try with_unfolding_all cases hg;done|refine aE ?_|refine aF ?_|refine aG ?_|refine aH ?_ ?_<;>intro hv<;>try with_unfolding_all cases hv;done)
 all_goals refine aJ ?_
 all_goals exact⟨_,⟨rfl,rfl⟩,by trivial⟩
noncomputable def zSW(s:List Nat):Int:=(zHy s).choose
theorem zNK(s:List Nat):Om CC 263 [.t (.str s),.t (.fn 243)] []=some (.val (.t (.int .i64 (zSW s))),[]):=(zHy s).choose_spec.1
theorem zHd(s:List Nat):∃x:Bool,Om CC 234 [.t (.str s),.t (.fn 243)] []=some (.val (.t (.bool x)),[])∧(True):=by
 refine zN zKR rfl ?_
 (have F_:=c5 zO zI zBf zNf (c2 zNk @zNK);show W CC 0 9 (zE 234) _ ⟨[(0,_),(1,_)],[]⟩ _)
 (with_reducible repeat' first|apply aA|refine aB ?_|refine aC ?_|refine aD ?_|(first|apply zB|apply zA|apply zC|apply zD)<;>intro hg<;>try with_unfolding_all cases hg;done|refine aE ?_|refine aF ?_|refine aG ?_|refine aH ?_ ?_<;>intro hv<;>try with_unfolding_all cases hv;done)
 all_goals refine aJ ?_
 all_goals exact⟨_,⟨rfl,rfl⟩,by trivial⟩
noncomputable def zT6(s:List Nat):Bool:=(zHd s).choose
theorem zNA(s:List Nat):Om CC 234 [.t (.str s),.t (.fn 243)] []=some (.val (.t (.bool (zT6 s))),[]):=(zHd s).choose_spec.1
theorem zNj(s:List Nat):∃x:Int,Om CC 285 [.t (.str s),.t (.fn 242),.t (.bool true)] []=some (.val (.t (.int .i64 x)),[])∧True :=
 zDO _ yB1 (fun x=>zZ _ x (by decide)) zNv zNG s true
noncomputable def zRq(s:List Nat):Int:=(zNj s).choose
theorem zNJ(s:List Nat):Om CC 285 [.t (.str s),.t (.fn 242),.t (.bool true)] []=some (.val (.t (.int .i64 (zRq s))),[]):=(zNj s).choose_spec.1
theorem zG6(s:List Nat):∃x:Int,Om CC 263 [.t (.str s),.t (.fn 242)] []=some (.val (.t (.int .i64 x)),[])∧(True):=by
 refine zN zKG rfl ?_
 (have F_:=c5 zR zI zBf zNr (c2 zMs @zNJ);show W CC 0 8 (zE 263) _ ⟨[(0,_),(1,_)],[]⟩ _)
 (with_reducible repeat' first|apply aA|refine aB ?_|refine aC ?_|refine aD ?_|(first|apply zB|apply zA|apply zC|apply zD)<;>intro hg<;>try with_unfolding_all cases hg;done|refine aE ?_|refine aF ?_|refine aG ?_|refine aH ?_ ?_<;>intro hv<;>try with_unfolding_all cases hv;done)
 all_goals refine aJ ?_
 all_goals exact⟨_,⟨rfl,rfl⟩,by trivial⟩
noncomputable def zTE(s:List Nat):Int:=(zG6 s).choose
theorem zNO(s:List Nat):Om CC 263 [.t (.str s),.t (.fn 242)] []=some (.val (.t (.int .i64 (zTE s))),[]):=(zG6 s).choose_spec.1
theorem zGP(s:List Nat):∃x:Bool,Om CC 234 [.t (.str s),.t (.fn 242)] []=some (.val (.t (.bool x)),[])∧(True):=by
 refine zN zKR rfl ?_
 (have F_:=c5 zO zI zBf zNf (c2 zNk @zNO);show W CC 0 9 (zE 234) _ ⟨[(0,_),(1,_)],[]⟩ _)
 (with_reducible repeat' first|apply aA|refine aB ?_|refine aC ?_|refine aD ?_|(first|apply zB|apply zA|apply zC|apply zD)<;>intro hg<;>try with_unfolding_all cases hg;done|refine aE ?_|refine aF ?_|refine aG ?_|refine aH ?_ ?_<;>intro hv<;>try with_unfolding_all cases hv;done)
 all_goals refine aJ ?_
 all_goals exact⟨_,⟨rfl,rfl⟩,by trivial⟩
noncomputable def zTQ(s:List Nat):Bool:=(zGP s).choose
theorem zNE(s:List Nat):Om CC 234 [.t (.str s),.t (.fn 242)] []=some (.val (.t (.bool (zTQ s))),[]):=(zGP s).choose_spec.1
theorem zJT(s:List Nat):∃x:Bool,Om CC 208 [.t (.str s)] []=some (.val (.t (.bool x)),[])∧True:=by
 refine zN zVb rfl ?_
 (have F_:=c5 zO zR zL zI (c5 zBf yCi zJF @zNA @qV);show W CC 0 23 (zE 208) _ ⟨[(0,_)],[]⟩ _)
 cases s with
 |nil =>
  repeat' (first|(with_reducible first|apply aA|apply xK|apply wA|apply vA|apply vB|apply xC|apply wJ|apply xT|apply wI|apply xD|apply wZ)|(refine wY (by kernel_rfl) ?_)|(with_reducible first|apply wH|apply wF|apply xS|apply wC|apply wB|apply uD|apply vQ|apply vP|apply uT|apply kG|apply uU|apply vO)|((with_reducible apply zA5);(focus kernel_rfl))|((with_reducible apply zAV);(focus kernel_rfl);(focus kernel_rfl))|(with_reducible first|apply qK|apply qF)|((with_reducible apply qO);(refine⟨by kernel_rfl,?_⟩))|((with_reducible refine zB (fun hg=>?_) (fun hg=>?_))<;>first|(cases hg;done)|skip)|((with_reducible refine zA (fun hg=>?_) (fun hg=>?_))<;>first|(cases hg;done)|skip)|((with_reducible refine zC (fun hg=>?_) (fun hg=>?_))<;>first|(cases hg;done)|skip)|((with_reducible refine zD (fun hg=>?_) (fun hg=>?_))<;>first|(cases hg;done)|skip)|((with_reducible apply zAn);(focus (simp only[beqL,beq_false,wanted,exec1,zE7,zJ,get,putT,ret,retO,lit,lit1,patch,nth,uZ,zFI,List.map_nil,Bool.not_true,vC,vI,qA,zEW,one1,vY,jA,jU, *];exact rfl)))|((with_reducible apply zAm);(focus (simp only[*];exact rfl)))|((refine qQ (by(simp only[zJ,get,lit,lit1, *];exact rfl)) (fun hv=>?_) (fun hv=>?_))<;>first|(cases hv;done)|skip))
  all_goals refine aJ ?_
  all_goals exact⟨_,⟨rfl,rfl⟩,trivial⟩
 |cons a l =>
  repeat' (first|(with_reducible first|apply aA|apply xK|apply wA|apply vA|apply vB|apply xC|apply wJ|apply xT|apply wI|apply xD|apply wZ)|(refine wY (by kernel_rfl) ?_)|(with_reducible first|apply wH|apply wF|apply xS|apply wC|apply wB|apply uD|apply vQ|apply vP|apply uT|apply kG|apply uU|apply vO)|((with_reducible apply zA5);(focus kernel_rfl))|((with_reducible apply zAV);(focus kernel_rfl);(focus kernel_rfl))|(with_reducible first|apply qK|apply qF)|((with_reducible apply qO);(refine⟨by kernel_rfl,?_⟩))|((with_reducible refine zB (fun hg=>?_) (fun hg=>?_))<;>first|(cases hg;done)|skip)|((with_reducible refine zA (fun hg=>?_) (fun hg=>?_))<;>first|(cases hg;done)|skip)|((with_reducible refine zC (fun hg=>?_) (fun hg=>?_))<;>first|(cases hg;done)|skip)|((with_reducible refine zD (fun hg=>?_) (fun hg=>?_))<;>first|(cases hg;done)|skip)|((with_reducible apply zAn);(focus (simp only[vX,wG,reach,yK,refs,catMap,depth,sub,sub1,renL,ren,mem,place,fresh,yW,plain,uK,view,yE,yH,vR,zZ,ne_eq,not_false_eq_true,cond_false,index,beqL,beq_false,Int.ofNat_eq_natCast,wanted,exec1,zE7,kO,kR,xLen,zEs,zJ,opds,get,putT,ret,retO,lit,lit1,patch,nth,upd,uZ,zAN,zKZ,zFI,zAC,beq_self_eq_true,List.map_cons,List.map_nil,List.length_cons,List.append_nil,Bool.not_true,Bool.and_self,Nat.reduceEqDiff,and_self,vX,wG,reach,yK,refs,catMap,depth,sub,sub1,renL,ren,mem,place,fresh,yW,plain,uK,view,yE,yH,vR,zZ,ne_eq,not_false_eq_true,cond_false,vC,vI,qA,zEW,one1,vY,jA,jU, *];exact rfl)))|((with_reducible apply zAm);(focus (simp only[*];exact rfl)))|((refine qQ (by(simp only[zJ,get,lit,lit1, *];exact rfl)) (fun hv=>?_) (fun hv=>?_))<;>first|(cases hv;done)|skip))
  all_goals refine aJ ?_
  all_goals exact⟨_,⟨rfl,rfl⟩,trivial⟩
noncomputable def yAp(s:List Nat):Bool:=(zJT s).choose
theorem zP9(s:List Nat):Om CC 208 [.t (.str s)] []=some (.val (.t (.bool (yAp s))),[]):=(zJT s).choose_spec.1
theorem zJ3(s:List Nat):∃x:Bool,Om CC 207 [.t (.str s)] []=some (.val (.t (.bool x)),[])∧(True):=by
 refine zN zUX rfl ?_
 (have F_:=c5 zO zR zI zBf (c3 zYE zJF @zNE);show W CC 0 11 (zE 207) _ ⟨[(0,_)],[]⟩ _)
 (with_reducible repeat' first|apply aA|refine aB ?_|refine aC ?_|refine aD ?_|(first|apply zB|apply zA|apply zC|apply zD)<;>intro hg<;>try with_unfolding_all cases hg;done|refine aE ?_|refine aF ?_|refine aG ?_|refine aH ?_ ?_<;>intro hv<;>try with_unfolding_all cases hv;done)
 all_goals refine aJ ?_
 all_goals exact⟨_,⟨rfl,rfl⟩,by trivial⟩
noncomputable def zZE(s:List Nat):Bool:=(zJ3 s).choose
theorem zQs(s:List Nat):Om CC 207 [.t (.str s)] []=some (.val (.t (.bool (zZE s))),[]):=(zJ3 s).choose_spec.1
theorem zNy(v:Val):∃x:Bool,Om CC 163 [.t (.agg [.int .u8 v.k,.int .i64 v.n,.str v.s])] []=some (.val (.t (.bool x)),[])∧(True):=by
 refine zN zVo rfl ?_
 (have F_:=c5 zK zL zI zH (c5 zZM zYw yCt @zQs (c2 @zP9 @zGg));show W CC 0 51 (zE 163) _ ⟨[(0,_)],[]⟩ _)
 (with_reducible repeat' first|apply aA|refine aB ?_|refine aC ?_|refine aD ?_|(first|apply zB|apply zA|apply zC|apply zD)<;>intro hg<;>try with_unfolding_all cases hg;done|refine aE ?_|refine aF ?_|refine aG ?_|refine aH ?_ ?_<;>intro hv<;>try with_unfolding_all cases hv;done)
 all_goals refine aJ ?_
 all_goals exact⟨_,⟨rfl,rfl⟩,by trivial⟩
noncomputable def MayV(v:Val):Bool:=(zNy v).choose
theorem zO0(v:Val):Om CC 163 [.t (.agg [.int .u8 v.k,.int .i64 v.n,.str v.s])] []=some (.val (.t (.bool (MayV v))),[]):=(zNy v).choose_spec.1
theorem zKh(v:Val)(w:Val):∃x:Int,Om CC 213 [.t (.agg [.int .u8 v.k,.int .i64 v.n,.str v.s]),.t (.agg [.int .u8 w.k,.int .i64 w.n,.str w.s])] []=some (.val (.t (.int .i64 x)),[])∧(True):=by
 refine zN zXf rfl ?_
 (have F_:=c5 zK zO zL zI (c5 zH zY yCu yAv (c5 zQ0 yC0 zRv @zTu (c3 @zLn @zRQ @zXN)));show W CC 0 22 (zE 213) _ ⟨[(0,_),(1,_)],[]⟩ _)
 (with_reducible repeat' first|apply aA|refine aB ?_|refine aC ?_|refine aD ?_|(first|apply zB|apply zA|apply zC|apply zD)<;>intro hg<;>try with_unfolding_all cases hg;done|refine aE ?_|refine aF ?_|refine aG ?_|refine aH ?_ ?_<;>intro hv<;>try with_unfolding_all cases hv;done)
 all_goals refine aJ ?_
 all_goals exact⟨_,⟨rfl,rfl⟩,by trivial⟩
noncomputable def zYP(v:Val)(w:Val):Int:=(zKh v w).choose
theorem zRk(v:Val)(w:Val):Om CC 213 [.t (.agg [.int .u8 v.k,.int .i64 v.n,.str v.s]),.t (.agg [.int .u8 w.k,.int .i64 w.n,.str w.s])] []=some (.val (.t (.int .i64 (zYP v w))),[]):=(zKh v w).choose_spec.1
theorem zHv(v:Val)(w:Val):∃x:Int×Bool,Om CC 166 [.t (.agg [.int .u8 v.k,.int .i64 v.n,.str v.s]),.t (.agg [.int .u8 w.k,.int .i64 w.n,.str w.s])] []=some (.val (.tup [.t (.int .i64 x.1),.t (.bool x.2)]),[])∧(True):=by
 refine zN zWW rfl ?_
 (have F_:=c5 zK zO zR zL (c5 zI zH zY jN (c5 zZt zRw zZi zXV (c5 zRv zZ4 @zIH @zSD (c3 @zSw @yCg @zRk))));show W CC 0 65 (zE 166) _ ⟨[(0,_),(1,_)],[]⟩ _)
 (with_reducible repeat' first|apply aA|refine aB ?_|refine aC ?_|refine aD ?_|(first|apply zB|apply zA|apply zC|apply zD)<;>intro hg<;>try with_unfolding_all cases hg;done|refine aE ?_|refine aF ?_|refine aG ?_|refine aH ?_ ?_<;>intro hv<;>try with_unfolding_all cases hv;done)
 all_goals refine aJ ?_
 all_goals exact⟨(_,_),⟨rfl,rfl⟩,by trivial⟩
noncomputable def zMm(v:Val)(w:Val):Int×Bool:=(zHv v w).choose
theorem zIj(v:Val)(w:Val):Om CC 166 [.t (.agg [.int .u8 v.k,.int .i64 v.n,.str v.s]),.t (.agg [.int .u8 w.k,.int .i64 w.n,.str w.s])] []=some (.val (.tup [.t (.int .i64 (zMm v w).1),.t (.bool (zMm v w).2)]),[]):=(zHv v w).choose_spec.1
end Go.Ab
