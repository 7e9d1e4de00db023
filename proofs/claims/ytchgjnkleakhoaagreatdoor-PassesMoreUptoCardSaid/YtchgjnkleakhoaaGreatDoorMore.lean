/- The statement of patterns that pass again (PassesMore), in its second form: whatever the templates, the pattern, the fact, the bindings and the number, together of bulk at most 1048576, true is handed back and each argument reads as it did; the listed tables and errors of the library start as its text lays them. -/
import Derived.Test.YtchgjnkleakhoaaGreatDoorCards
import Derived.Test.YtchgjnkleakhoaaGreatDoorTie
import Derived.ProofKit
import Derived.Lay
import Derived.LaidOnce
import Derived.MakeChecks
import Derived.JoinedCond
import Derived.Deep.DeepHandedRow
import Derived.Stop.LaidErr
import Derived.Lib.LaidU8
import Derived.Lib.LaidTab
import Derived.Test.YtchgjnkleakhoaaGreatDoorG37
import Derived.Test.YtchgjnkleakhoaaGreatDoorG25
import Derived.Test.YtchgjnkleakhoaaGreatDoorG39
set_option maxRecDepth 1000000
set_option maxHeartbeats 40000000
set_option linter.all false
namespace Go.Proofs.YtchgjnkleakhoaaGreatDoor.passesMore
open Go.ChangeShapes Go.WideShapes Go.ChangeAt Go.RowKit Go.Ab
def own:ownKnob Tryz.prog.godebug=none:=by kernel_rfl
def yAA(P:Program):Bool:=(List.range P.types.size).all fun t=>match P.underlying t with|some (.slice e)=>decide (0<P.cellsOf e)|_=>true
def zRS{t e:TypeId}(ht:t<Tryz.prog.types.size)(hu:Tryz.prog.underlying t=some (.slice e)):0<Tryz.prog.cellsOf e:=by
 have h:yAA Tryz.prog=true:=by kernel_rfl
 have:=List.all_eq_true.1 h t (List.mem_range.2 ht);rw[hu] at this
 simpa using this
def kids:Kids Tryz.prog (·<Tryz.prog.types.size):=kids_rows (by kernel_rfl) (by kernel_rfl)
def r64{n:Int}(h:(Lit.int .i64 n).wf=true):R64 n:=by
 have:-9223372036854775808≤n∧n≤9223372036854775807:=by simpa [Lit.wf,IntKind.min,IntKind.max,IntKind.signed,IntKind.bits] using h
 unfold R64;omega
def u8r{n:Int}(h:(Lit.int .u8 n).wf=true):0≤n∧n<256:=by
 have:0≤n∧n≤255:=by simpa [Lit.wf,IntKind.min,IntKind.max,IntKind.signed,IntKind.bits] using h
 omega
def vok{x:Val}(h:Val.okU 1048576 x):VOK x:=⟨r64 h.2.1,by have:=h.2.2.1;omega⟩
def xok{x:Sl Ab.Node}(h:uSlOK 1048576 (Ab.Node.okU 1048576) x):XOK x :=
 ⟨h.nl,by have:=h.len;omega,fun y hy=>by have:=(h.all y hy).2.2.2.1.len;omega,fun y hy=>vok (h.all y hy).2.1⟩
def tok{x:Test}(h:Test.okU 1048576 x):TOK x:=⟨xok h.2.1,xok h.2.2.1,by have:=h.2.2.2.1.len;omega⟩
def sok{x:STest}(h:STest.okU 1048576 x):SOK x:=⟨by have:=h.2.1.len;omega,fun y hy=>tok (h.2.1.all y hy)⟩
def pnode{x:Ab.Node}(h:Ab.Node.okU 1048576 x):PNode x∧Byt x.v.s∧Byt x.name :=
 ⟨⟨u8r h.1,⟨r64 h.2.1.2.1,by have:=h.2.1.2.2.1;omega⟩,by have:=h.2.2.1.1;omega,by have:=h.2.2.2.1.len;omega⟩,h.2.1.2.2.2,h.2.2.1.2⟩
def pexpr{x:Sl Ab.Node}(h:uSlOK 1048576 (Ab.Node.okU 1048576) x):x.l.length≤1000000000∧(∀m ∈ x.l,PNode m)∧(x.l.length≤60→Byt (vH x.l)) :=
 ⟨by have:=h.len;omega,fun m hm=>(pnode (h.all m hm)).1,fun _=>zUb fun m hm=>pnode (h.all m hm)⟩
def ptest{x:Test}(h:Test.okU 1048576 x):PTest x:=⟨u8r h.1,pexpr h.2.1,pexpr h.2.2.1,by have:=h.2.2.2.1.len;omega⟩
def mok{ts:Sl Tpl}{p:Pat}{f:Fact}{vars:Sl Bind}(h0:uSlOK 1048576 (Tpl.okU 1048576) ts)(h1:Pat.okU 1048576 p)(h2:Fact.okU 1048576 f)(h3:uSlOK 1048576 (Bind.okU 1048576) vars):MoreOK ts p f vars :=
 {hp :=
  {hts:=by have:=h0.len;omega
   htsl:=fun t ht=>by have:=(h0.all t ht).2.len;omega
   hsl:=by have:=h1.2.2.1.len;omega
   htests:=fun s hs=>sok (h1.2.2.1.all s hs)
   hfv:=fun v hv=>vok (h2.2.2.all v hv)
   hvl:=by have:=h3.len;omega
   hvv:=fun b hb=>vok (h3.all b hb).2
   hvn:=h3.nl }
  hv:=by have:=h3.len;omega
  hs:=by have:=h1.2.2.1.len;omega
  hf:=by have:=h2.2.2.len;omega
  hx:=fun s hs x hx=>ptest ((h1.2.2.1.all s hs).2.1.all x hx) }
abbrev L:List (String×DataW Unit):=Rows.passesMoreUptoRow.laid
def yCe {w : World} (h : laidMet Tryz.prog L w) : Lib.TabIs Tryz.prog w "internal/strconv.uint64pow10" .u64 Lib.pow10Tab := by
 have h2:=h.tail.tail;exact Lib.tabIs_of_head (g:=3) (t:=372) (e:=38) (n:=20) (by kernel_rfl) (by kernel_rfl) (by kernel_rfl) (by kernel_rfl) (by kernel_rfl) (by kernel_rfl) h2
def zSw {w:World} {n:String} {nm:String} {d:DataW Unit} {g:Nat} {t:TypeId} {ms:Array (String×TypeId)} (hr:Lib.VarReads Tryz.prog w n (.iface nm d)) (hg:Tryz.prog.globalNamed n=some g)
  (ht:(Tryz.prog.globals[g]?).map (·.type)=some t) (hu:Tryz.prog.underlying t=some (.interface ms)):∃tp p,w.var? Tryz.prog n=some #[.iface tp p]:=by
 obtain⟨g',t',cs,fuel,p,h1,h2,h3,h4⟩:=hr;obtain rfl:=Option.some.inj (hg.symm.trans h1);obtain rfl:=Option.some.inj (ht.symm.trans h2);cases fuel with
 |zero=>simp [DataW.trod] at h4
 |succ f =>
  unfold DataW.trod at h4;rw[hu] at h4;obtain⟨l⟩:=cs;dsimp only at h4;split at h4<;>simp_all
def yDz {w : World} (h : laidMet Tryz.prog L w) : ∃ tp p, w.var? Tryz.prog "strconv.ErrSyntax" = some #[.iface tp p] :=
 zSw (g:=4) (t:=188) (Lib.laidMet.reads h (by simp [L,Rows.passesMoreUptoRow,Rows.laid_strconv_ErrSyntax];exact⟨rfl,rfl⟩)) (by kernel_rfl) (by kernel_rfl) Tryz.underlying188
def yB9 {w : World} (h : laidMet Tryz.prog L w) : ∃ tp p, w.var? Tryz.prog "strconv.ErrRange" = some #[.iface tp p] :=
 zSw (g:=5) (t:=188) (Lib.laidMet.reads h (by simp [L,Rows.passesMoreUptoRow,Rows.laid_strconv_ErrRange];exact⟨rfl,rfl⟩)) (by kernel_rfl) (by kernel_rfl) Tryz.underlying188
def zW8 (H:Type) (enc:TypeId×Value→H) (W:World) (base:Nat) (args:Array Value) (ds gs:List (DataW H)) (before:List MemPlace)
  (hval:∀(j:Nat) t v,Tryz.f3.params[j]?=some t→args[j]?=some v→Value.okWide Tryz.prog W .any base t v)
  (hW:DataW.Whole enc Tryz.prog Tryz.f3.params.toList Rows.passesMoreSpec.vars false W args.toList ds gs before)
  (hk:Rows.uptoSmall H (ds++gs)=true) (hL:laidMet Tryz.prog L W) (hsh:W.ShapedOpen Tryz.prog) :
  Calls Tryz.prog 3 args W fun e W'=>∃v,e=.returned v∧Rows.passesMoreSpec.post enc Tryz.prog Tryz.f3 false true false false W args v W':=by
 have hW':=hW;obtain⟨p,q,hA0,hV,rfl,hfz,hnd⟩:=hW;have hA:DataW.TrodAll enc Tryz.prog W 0 (fun _=>true) true Tryz.f3.params.toList args.toList ds p:=hA0;rw[Tryz.params3] at hA hval;obtain⟨v0,vs0,d0,ds0,p0,q0,hargs,rfl,rfl,h0,r0⟩:=trodAll_cons hA;obtain⟨v1,vs1,d1,ds1,p1,q1,rfl,rfl,rfl,h1,r1⟩:=trodAll_cons r0;obtain⟨v2,vs2,d2,ds2,p2,q2,rfl,rfl,rfl,h2,r2⟩:=trodAll_cons r1;obtain⟨v3,vs3,d3,ds3,p3,q3,rfl,rfl,rfl,h3,r3⟩:=trodAll_cons r2;obtain⟨v4,vs4,d4,ds4,p4,q4,rfl,rfl,rfl,h4,r4⟩:=trodAll_cons r3;obtain⟨rfl,rfl,rfl⟩:=trodAll_nil r4;obtain rfl:args=#[v0,v1,v2,v3,v4]:=by cases args;simp_all
 obtain⟨rfl,rfl⟩:=trodVars_none hV;have hb:Rows.uptoBulkAll ([d0,d1,d2,d3,d4]++([]:List (DataW H)))≤1048576:=of_decide_eq_true hk;simp only[List.append_nil,Rows.uptoBulkAll] at hb;obtain⟨ts,c0,k0⟩:=udec_22 (N:=1048576) _ (urd_of_trod h0 (by omega));obtain⟨pt,c1,k1⟩:=udec_27 (N:=1048576) _ (urd_of_trod h1 (by omega));obtain⟨f,c2,k2⟩:=udec_30 (N:=1048576) _ (urd_of_trod h2 (by omega));obtain⟨vars,c3,k3⟩:=udec_31 (N:=1048576) _ (urd_of_trod h3 (by omega));obtain⟨k,c4,k4⟩:=udec_int (N:=1048576) (k:=.i64) Tryz.underlying3 _ (urd_of_trod h4 (by omega));obtain⟨a0,l0,m0,rfl⟩:=okWide_slice Tryz.underlying22 (hval 0 22 v0 rfl rfl);obtain⟨cs1,rfl,_⟩:=okWide_struct Tryz.underlying27 (hval 1 27 v1 rfl rfl);obtain⟨cs2,rfl,_⟩:=okWide_struct Tryz.underlying30 (hval 2 30 v2 rfl rfl);obtain⟨a3,l3,m3,rfl⟩:=okWide_slice Tryz.underlying31 (hval 3 31 v3 rfl rfl);obtain⟨i4,rfl⟩:=okWide_int Tryz.underlying3 (hval 4 3 v4 rfl rfl);have om:=zTg ts pt f vars k (mok k0 k1 k2 k3);refine(zOB (C:=CC) (w:=W) (vs:=[.slice a0 l0 m0,.agg cs1,.agg cs2,.slice a3 l3 m3,.int .i64 i4]) (by kernel_rfl) (of_decide_eq_true (by kernel_rfl)) (yCT hsh (yCe hL) (yDz hL) (yB9 hL)) om (fun γ g hγ=>?_) rfl).mono fun e W' ⟨he,hk,hs⟩=>⟨_,he,?_⟩
 ·refine .cons (.t _ _ ?_) (.cons (.t _ _ ?_) (.cons (.t _ _ ?_) (.cons (.t _ _ ?_) (.cons (.t _ _ ?_) .nil))))<;>rw[hγ]
  ·exact zOM c0 (by simp)
  ·exact zTz c1
  ·exact zTz c2
  ·exact zOM c3 (by simp)
  exact zOM c4 (by simp)
 exact zW9 (T:=(·<Tryz.prog.types.size)) (tb:=4) hW' rfl kids zRS (by rw[Tryz.params3];decide +kernel) (by kernel_rfl) Tryz.underlying4 rfl rfl rfl hk hs
def zSz:(L.all fun x=>x.2.handleName?.isNone)=true:=by kernel_rfl
def wit:Array Value:=#[.slice none 0 0,.agg #[.string ⟨#[]⟩,.string ⟨#[]⟩,.slice none 0 0,.int .i64 0,.int .i64 0],.agg #[.int .i64 0,.int .i64 0,.slice none 0 0],.slice none 0 0,.int .i64 0]
def zX9 (os:Os) (H:Type) (enc:TypeId×Value→H) :
  ∃(w:World) (tape:Tape) (i:Input),w.os=os∧(w.forCall tape i).Shaped Tryz.checked.prog∧i.vars=[]∧Input.okWide Tryz.checked.prog (w.forCall tape i) .any w.heap.size 3 i ∧
   (Rows.OpenSpec.upto Rows.passesMoreSpec).preRow enc Tryz.checked.prog Tryz.f3 Rows.passesMoreUptoRow.domain false L (w.forCall tape i).memory i.args∧({ }:Assume).holds Tryz.checked.prog (lone (Frame.enter Tryz.checked.prog 3 i.args .normal) [] (w.forCall tape i)):=by
 have hok:Input.okWideB Tryz.checked.prog ((World.laidAll Tryz.prog os L).forCall (fun _ _=>0) ⟨#[],wit,[]⟩) 3 ⟨#[],wit,[]⟩=true:=by kernel_rfl
 refine⟨World.laidAll Tryz.prog os L,fun _ _=>0,⟨#[],wit,[]⟩,World.laidAll_os _ _ _,World.shaped_of_ZipB (by kernel_rfl) (by kernel_rfl),(Input.okWide_of_okWideB (base:=0) hok).1,(Input.okWide_of_okWideB hok).2,?_,?_⟩
 ·refine OpenSpec.preRow_of_cond 8 (x:=([.nil,.agg [.lit (.string []),.lit (.string []),.nil,.agg [.lit (.int .i64 0),.lit (.int .i64 0)]],.agg [.lit (.int .i64 0),.lit (.int .i64 0),.nil],.nil,.lit (.int .i64 0)],[],[])) (by kernel_rfl) (by kernel_rfl) (fun k hk=>by cases hk;kernel_rfl) (by kernel_rfl) ?_;rw[MakeChecks.laidMetH_plain _ _ _ zSz];exact laidMet_laidAll _ (by kernel_rfl) (by kernel_rfl)
 simp only[Assume.holds];exact⟨by simp,by simp,fun _=>Modest.zero,by simp,by simp⟩
def yFK (os:Os) (started:os.Started) (H:Type) (enc:TypeId×Value→H) (F:Stop.Interp) :
  ReturnsInHanded {} Tryz.checked os 3 .any ((Rows.OpenSpec.upto Rows.passesMoreSpec).preRow enc Tryz.prog Tryz.f3 Rows.passesMoreUptoRow.domain false L) (((Rows.OpenSpec.upto Rows.passesMoreSpec).at F).post enc Tryz.prog Tryz.f3 false true false false):=by
 refine returnsInHanded_of_row (C:=Tryz.checked) (s:=Rows.OpenSpec.upto Rows.passesMoreSpec) own started (by kernel_rfl) Tryz.func3 (zX9 os H enc) ?_;intro W base args ds gs before hval hW _ hcond _ hL hsh _;rw[MakeChecks.laidMetH_plain _ _ _ zSz] at hL;exact zW8 H enc W base args ds gs before hval hW (hcond _ rfl) hL hsh
def inst:Func.isInstance Tryz.checked.prog Tryz.f3 Rows.passesMoreUptoRow.origin Rows.passesMoreUptoRow.targs:=of_decide_eq_true (by kernel_rfl)
def wrap:Func.isWrapper Tryz.checked.prog Tryz.f3 Rows.passesMoreUptoRow.wrapper Rows.passesMoreUptoRow.mainSum:=by unfold Func.isWrapper;first|(rw[if_pos (by decide +kernel)];kernel_rfl)|(rw[if_neg (by decide +kernel)];exact⟨rfl,rfl⟩)
def zT9:Rows.PassesMoreUptoSaid :=
 OpenClaim.holds_of_cond 3 Tryz.f3 rfl rfl rfl rfl rfl rfl rfl ⟨rfl,rfl,rfl,rfl,rfl⟩ rfl rfl rfl rfl rfl (by kernel_rfl) Tryz.func3 closed
  inst wrap
  (fun os started H enc _ F=>by rw[OpenClaim.pre_eq_preRow];exact yFK os started H enc F)
def byText:Rows.passesMoreUptoRow.wfByText (Rows.OpenSpec.upto Rows.passesMoreSpec)=true:=by kernel_rfl
theorem proved:Rows.PassesMoreUptoCardSaid :=
 Claim7.holds_tied_plain_at .later [] [.data, .data, .data, .data, .sentinel, .sentinel, .pinned] true (true, "13a56b8b672a54ada316e412bdbe18b0d7183cf292a8d2c88fa9e1883ba565c1") true
  zT9 (fun _ h=>by cases h) byText (fun _ h=>by cases h) passesMoreUpto_row_tie rfl ⟨rfl,rfl⟩ mains rfl
  (fun f fn hf hfn=>by
   obtain rfl:f=3:=Option.some.inj (named.symm.trans hf) |>.symm;obtain rfl:fn=Tryz.f3:=(Option.some.inj (Tryz.func3.symm.trans hfn)).symm;exact⟨looks,fun j t ht=>by
    rw[Tryz.params3] at ht;have hm:t ∈ [22,27,30,31,3]:=by simpa using Array.mem_of_getElem? ht
    exact(show Tryz.prog.wantsStandIn t=false by simpa using List.all_eq_true.1 stand t hm)⟩)
  goes
#print axioms proved
end Go.Proofs.YtchgjnkleakhoaaGreatDoor.passesMore
