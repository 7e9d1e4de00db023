/- The statement of tests told and read again (UnaryBack): whatever the two texts, self and the bindings, true is handed back and each argument reads as it did; the listed tables and errors of the library start as its text lays them. -/
import Derived.Test.YtdbfacakphncfaaGreatDoorRows
import Derived.Test.YtdbfacakphncfaaGreatDoorCards
import Derived.Test.YtdbfacakphncfaaGreatDoorTie
import Derived.ProofKit
import Derived.Lay
import Derived.LaidOnce
import Derived.SevenTiedAt
import Derived.MakeChecks
import Derived.Stop.LaidErr
import Derived.Lib.LaidU8
import Derived.Lib.LaidTab
import Derived.Test.YtdbfacakphncfaaGreatDoorG36
import Derived.Test.YtdbfacakphncfaaGreatDoorG25
set_option maxRecDepth 1000000
set_option maxHeartbeats 40000000
set_option linter.all false
namespace Go.Proofs.YtdbfacakphncfaaGreatDoor.unaryBack
open Go.ChangeShapes Go.WideShapes Go.ChangeAt Go.RowKit Go.Ab
def own:ownKnob Tryz.prog.godebug=none:=by kernel_rfl
def zME(P:Program):Bool:=(List.range P.types.size).all fun t=>match P.underlying t with|some (.slice e)=>decide (0<P.cellsOf e)|_=>true
def zHF{t e:TypeId}(ht:t<Tryz.prog.types.size)(hu:Tryz.prog.underlying t=some (.slice e)):0<Tryz.prog.cellsOf e:=by
 have h:zME Tryz.prog=true:=by kernel_rfl
 have:=List.all_eq_true.1 h t (List.mem_range.2 ht);rw[hu] at this
 simpa using this
def kids:Kids Tryz.prog (·<Tryz.prog.types.size):=kids_rows (by kernel_rfl) (by kernel_rfl)
def r64{n:Int}(h:(Lit.int .i64 n).wf=true):R64 n:=by
 have:-9223372036854775808≤n∧n≤9223372036854775807:=by simpa [Lit.wf,IntKind.min,IntKind.max,IntKind.signed,IntKind.bits] using h
 unfold R64;omega
abbrev L:List (String×DataW Unit):=Rows.unaryBackRow.laid
def zOu {w : World} (h : laidMet Tryz.prog L w) : Lib.TabIs Tryz.prog w "internal/strconv.uint64pow10" .u64 Lib.pow10Tab := by
 have h2:=h.tail.tail;exact Lib.tabIs_of_head (g:=5) (t:=320) (e:=244) (n:=20) (by kernel_rfl) (by kernel_rfl) (by kernel_rfl) (by kernel_rfl) (by kernel_rfl) (by kernel_rfl) h2
def zH3 {w:World} {n:String} {nm:String} {d:DataW Unit} {g:Nat} {t:TypeId} {ms:Array (String×TypeId)} (hr:Lib.VarReads Tryz.prog w n (.iface nm d)) (hg:Tryz.prog.globalNamed n=some g)
  (ht:(Tryz.prog.globals[g]?).map (·.type)=some t) (hu:Tryz.prog.underlying t=some (.interface ms)):∃tp p,w.var? Tryz.prog n=some #[.iface tp p]:=by
 obtain⟨g',t',cs,fuel,p,h1,h2,h3,h4⟩:=hr;obtain rfl:=Option.some.inj (hg.symm.trans h1);obtain rfl:=Option.some.inj (ht.symm.trans h2);cases fuel with
 |zero=>simp [DataW.trod] at h4
 |succ f =>
  unfold DataW.trod at h4;rw[hu] at h4;obtain⟨l⟩:=cs;dsimp only at h4;split at h4<;>simp_all
def zPs {w : World} (h : laidMet Tryz.prog L w) : ∃ tp p, w.var? Tryz.prog "strconv.ErrSyntax" = some #[.iface tp p] :=
 zH3 (g:=3) (t:=157) (Lib.laidMet.reads h (by simp [L,Rows.unaryBackRow,Rows.laid_strconv_ErrSyntax];exact⟨rfl,rfl⟩)) (by kernel_rfl) (by kernel_rfl) Tryz.underlying157
def zPn {w : World} (h : laidMet Tryz.prog L w) : ∃ tp p, w.var? Tryz.prog "strconv.ErrRange" = some #[.iface tp p] :=
 zH3 (g:=4) (t:=157) (Lib.laidMet.reads h (by simp [L,Rows.unaryBackRow,Rows.laid_strconv_ErrRange];exact⟨rfl,rfl⟩)) (by kernel_rfl) (by kernel_rfl) Tryz.underlying157
def zKn (H:Type) (enc:TypeId×Value→H) (W:World) (base:Nat) (args:Array Value) (ds gs:List (DataW H)) (before:List MemPlace)
  (hval:∀(j:Nat) t v,Tryz.f5.params[j]?=some t→args[j]?=some v→Value.okWide Tryz.prog W .any base t v)
  (hW:DataW.Whole enc Tryz.prog Tryz.f5.params.toList Rows.unaryBackSpec.vars false W args.toList ds gs before)
  (hL:laidMet Tryz.prog L W) (hsh:W.ShapedOpen Tryz.prog) :
  Calls Tryz.prog 5 args W fun e W'=>∃v,e=.returned v∧Rows.unaryBackSpec.post enc Tryz.prog Tryz.f5 false true false false W args v W':=by
 have hW':=hW;obtain⟨p,q,hA0,hV,rfl,hfz,hnd⟩:=hW;have hA:DataW.TrodAll enc Tryz.prog W 0 (fun _=>true) true Tryz.f5.params.toList args.toList ds p:=hA0;rw[Tryz.params5] at hA hval;obtain⟨v0,vs0,d0,ds0,p0,q0,hargs,rfl,rfl,h0,r0⟩:=trodAll_cons hA;obtain⟨v1,vs1,d1,ds1,p1,q1,rfl,rfl,rfl,h1,r1⟩:=trodAll_cons r0;obtain⟨v2,vs2,d2,ds2,p2,q2,rfl,rfl,rfl,h2,r2⟩:=trodAll_cons r1;obtain⟨v3,vs3,d3,ds3,p3,q3,rfl,rfl,rfl,h3,r3⟩:=trodAll_cons r2;obtain⟨rfl,rfl,rfl⟩:=trodAll_nil r3;obtain rfl:args=#[v0,v1,v2,v3]:=by cases args;simp_all
 obtain⟨rfl,rfl⟩:=trodVars_none hV;obtain⟨s,c0,k0⟩:=zGN Tryz.underlying9 _ (jV h0);obtain⟨m,c1,k1⟩:=zGN Tryz.underlying9 _ (jV h1);obtain⟨self,c2,k2⟩:=zPv _ (jV h2);obtain⟨vars,c3,k3⟩:=zT2 _ (jV h3);obtain⟨b0,rfl⟩:=okWide_string Tryz.underlying9 (hval 0 9 v0 rfl rfl);obtain⟨b1,rfl⟩:=okWide_string Tryz.underlying9 (hval 1 9 v1 rfl rfl);obtain⟨cs2,rfl,_⟩:=okWide_struct Tryz.underlying23 (hval 2 23 v2 rfl rfl);obtain⟨a3,l3,m3,rfl⟩:=okWide_slice Tryz.underlying24 (hval 3 24 v3 rfl rfl);have om:=zVj s m self vars.nl vars.cl vars.l k0.2 k1.2 (r64 k2.2.1) (fun b hb=>r64 (k3.all b hb).2.2.1) k3.len;refine(zHY (C:=CC) (w:=W) (vs:=[.string b0,.string b1,.agg cs2,.slice a3 l3 m3]) (by kernel_rfl) (of_decide_eq_true (by kernel_rfl)) (zUn hsh (zOu hL) (zPs hL) (zPn hL)) om (fun γ g hγ=>?_) rfl).mono fun e W' ⟨he,hk,hs⟩=>⟨_,he,?_⟩
 ·refine .cons (.t _ _ ?_) (.cons (.t _ _ ?_) (.cons (.t _ _ ?_) (.cons (.t _ _ ?_) .nil)))<;>rw[hγ]
  ·exact zID c0 (by simp)
  ·exact zID c1 (by simp)
  ·exact zPq c2
  exact zID c3 (by simp)
 exact zPa (T:=(·<Tryz.prog.types.size)) (tb:=4) hW' rfl kids zHF (by rw[Tryz.params5];decide +kernel) (by kernel_rfl) Tryz.underlying4 rfl rfl rfl hk hs
def zIl:(L.all fun x=>x.2.handleName?.isNone)=true:=by kernel_rfl
def zPF (os:Os) (started:os.Started) (H:Type) (enc:TypeId×Value→H) :
  ReturnsInHanded {} Tryz.checked os 5 .any (fun w args=>(Rows.unaryBackSpec.pre enc Tryz.prog Tryz.f5 [] false w args∧laidMetH Tryz.prog L w)∧sizedMet enc Tryz.prog Tryz.f5 (OpenSpec.ofChange Rows.unaryBackSpec) false w args)
   (Rows.unaryBackSpec.post enc Tryz.prog Tryz.f5 false true false false):=by
 refine returnsInHanded_of_calls own started (by kernel_rfl)
  (ChangeSpec.witness_shaped (enc:=enc) (C:=Tryz.checked) (os:=os) (X:=fun w _=>laidMetH Tryz.prog L w) false (World.laidAll Tryz.prog os L) #[.string ⟨#[]⟩,.string ⟨#[]⟩,.agg #[.int .u8 0,.int .i64 0,.string ⟨#[]⟩],.slice none 0 0] 8 (World.laidAll_os _ _ _)
   (World.shaped_of_ZipB (by kernel_rfl) (by kernel_rfl)) (by kernel_rfl) (by kernel_rfl) (by kernel_rfl)
   (by rw[MakeChecks.laidMetH_plain _ _ _ zIl];exact laidMet_laidAll _ (by kernel_rfl) (by kernel_rfl))) ?_
 intro w tape i _ shaped _ fits reads holds;obtain⟨_,_,_,fn',found,_,_,_,_,hval⟩:=fits;obtain rfl:fn'=Tryz.f5:=Option.some.inj (found.symm.trans Tryz.func5);obtain⟨⟨⟨ds,gs,before,whole,conds⟩,hx⟩,hz⟩:=reads;rw[MakeChecks.laidMetH_plain _ _ _ zIl] at hx;have whole':=DataW.Whole.of_heap (w':=w.forCall tape i) (by rfl) whole;have hx':laidMet Tryz.prog L (w.forCall tape i):=hx.of_heap (by rfl);refine(zKn H enc (w.forCall tape i) w.heap.size i.args ds gs before hval whole' hx' shaped).mono fun e W' ⟨v,he,post⟩=>?_
 subst he;exact ChangeSpec.post_blind post
def closed:joinedFacts Tryz.checked.prog 5 Tryz.f5 Rows.unaryBackSpec Rows.unaryBackRow=true:=by kernel_rfl
def inst:Func.isInstance Tryz.checked.prog Tryz.f5 Rows.unaryBackRow.origin Rows.unaryBackRow.targs:=of_decide_eq_true (by kernel_rfl)
def wrap:Func.isWrapper Tryz.checked.prog Tryz.f5 Rows.unaryBackRow.wrapper Rows.unaryBackRow.mainSum:=by unfold Func.isWrapper;first|(rw[if_pos (by decide +kernel)];kernel_rfl)|(rw[if_neg (by decide +kernel)];exact⟨rfl,rfl⟩)
def zH8:Rows.UnaryBackSaid :=
 OpenClaim.holds_of_wide 5 Tryz.f5 rfl rfl rfl rfl rfl rfl rfl ⟨rfl,rfl,rfl,rfl,rfl⟩ rfl rfl rfl rfl rfl (by kernel_rfl) Tryz.func5 closed
  inst wrap
  (fun os started H enc _=>zPF os started H enc)
theorem proved:Rows.UnaryBackCardSaid :=
 Claim7.holds_tied_plain_at .later [] [.data, .data, .data, .data, .sentinel, .sentinel, .pinned] true (true, "45efb570ba44d363b24983afe57be5ab06c23102b0a7d053382133ebe84bbf3c") true
  zH8 (fun _ h=>by cases h) (by kernel_rfl) (fun _ h=>by cases h) unaryBack_row_tie rfl ⟨rfl,rfl⟩ (by kernel_rfl) rfl
  (fun f fn hf hfn=>by
   obtain rfl : f = 5 := Option.some.inj ((show Tryz.prog.funcNamed "witan/witanlaw11.UnaryBack" = some 5 by kernel_rfl).symm.trans hf) |>.symm
   obtain rfl:fn=Tryz.f5:=(Option.some.inj (Tryz.func5.symm.trans hfn)).symm;exact⟨by kernel_rfl,fun j t ht=>by
    rw[Tryz.params5] at ht;have hm:t ∈ [9,9,23,24]:=by simpa using Array.mem_of_getElem? ht
    have hall:([9,9,23,24].all fun u=>!Tryz.prog.wantsStandIn u)=true:=by kernel_rfl
    exact(show Tryz.prog.wantsStandIn t=false by simpa using List.all_eq_true.1 hall t hm)⟩)
  (by kernel_rfl)
#print axioms proved
end Go.Proofs.YtdbfacakphncfaaGreatDoor.unaryBack
