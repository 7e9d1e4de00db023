/- Lemmas. -/
import Derived.Shelf.Strings.OnBuilder
import Derived.Shelf.Strings.Trim
import Derived.Shelf.Small.Bits
import Derived.Shelf.Strings.BuilderK
import Derived.Shelf.Utf8.RuneCount
import Derived.Shelf.Strconv.Itoa4
import Derived.Shelf.Strconv.ErrVarParseInt
import Derived.Shelf.Strings.Shaped
import Derived.Shelf.Strings.SplitShaped
import Derived.Shelf.Unicode.Decode
import Derived.Shelf.Strings.Runes
import Derived.Shelf.Strings.RuneCount
import Derived.Shelf.Strings.AsciiSet
import Derived.Shelf.Bits.Mul64
import Derived.Shelf.Unicode.DecodeLast
import Derived.WalkKit
import Derived.BigCall
import Derived.Test.YtchgjnkleakhoaaGreatDoorG03
import Derived.ChangeAgain
import Derived.Test.YtchgjnkleakhoaaGreatDoorG38
set_option maxRecDepth 1000000
set_option maxHeartbeats 40000000
set_option linter.all false
namespace Go.Proofs
open Go.Shelf
def Tryz.lays169_ren:Go.Shelf.Ren:=⟨fun|169=>92|n=>n,fun|70=>183|9=>9|0=>0|72=>185|37=>134|127=>236|3=>3|5=>5|n=>n,fun n=>n⟩
theorem Tryz.lays169:Go.Proofs.Lays.n169 Tryz.prog Tryz.lays169_ren:=by repeat' first|kernel_rfl|exact fun _=>rfl|decide|constructor
theorem Tryz.Builder_Extra_169:Builder.Extra Tryz.prog Tryz.lays169_ren:=by repeat' first|kernel_rfl|exact fun _=>rfl|decide|constructor
def Tryz.lays156_ren:Go.Shelf.Ren:=⟨fun|156=>59|165=>90|166=>91|169=>92|240=>147|241=>148|276=>199|277=>200|n=>n,fun|31=>66|9=>9|3=>3|4=>4|0=>0|20=>20|72=>185|76=>189|70=>183|37=>134|75=>188|127=>236|164=>272|5=>5|80=>126|n=>n,fun n=>n⟩
theorem Tryz.lays156:Go.Proofs.Lays.n156 Tryz.prog Tryz.lays156_ren:=by repeat' first|kernel_rfl|exact fun _=>rfl|decide|constructor
theorem Tryz.Builder_Extra_156:Builder.Extra Tryz.prog Tryz.lays156_ren:=by repeat' first|kernel_rfl|exact fun _=>rfl|decide|constructor
open Go.RowKit in
theorem Tryz.strings_Join_none (a:Option Addr) (c:Nat) (sep:ByteArray) (w:World) :
  Calls Tryz.prog 59 #[.slice a 0 c,.string sep] w fun e w'=>e=.returned (.string ⟨#[]⟩)∧w'=w:=Any.strings_Join_none Tryz.lays156 Tryz.Builder_Extra_156 a c sep w
open Go.RowKit in
theorem Tryz.strings_Join (bk o c:Nat) (xs:List ByteArray) (sep:ByteArray) (w:World) (hcells:∀(j:Nat) x,xs[j]?=some x→w.cell? ⟨bk,o+j,none⟩=some (.string x)) (hbk:bk<w.heap.size) (hN:xs.length≤140737488355328) (hcap:xs.length≤c) (hlen:(Lib.join (xs.map (·.data.toList)) sep.data.toList).length≤140737488355328) :
  Calls Tryz.prog 59 #[.slice (some ⟨bk,o,none⟩) xs.length c,.string sep] w fun e w'=>e=.returned (.string ⟨(Lib.join (xs.map (·.data.toList)) sep.data.toList).toArray⟩)∧Below w.heap.size w w':=Any.strings_Join Tryz.lays156 Tryz.Builder_Extra_156 bk o c xs sep w hcells hbk hN hcap hlen
def Tryz.lays162_ren:Go.Shelf.Ren:=⟨fun|162=>272|232=>304|227=>305|234=>306|236=>307|228=>332|271=>333|151=>334|120=>344|197=>336|152=>345|260=>348|137=>203|119=>354|224=>265|225=>264|217=>252|266=>291|n=>n,fun|9=>9|4=>4|3=>3|5=>5|117=>357|116=>356|0=>0|124=>360|21=>21|105=>375|46=>320|119=>393|139=>396|138=>395|n=>n,fun|3=>8|4=>9|n=>n⟩
theorem Tryz.lays162:Go.Proofs.Lays.n162 Tryz.prog Tryz.lays162_ren:=by repeat' first|kernel_rfl|exact fun _=>rfl|decide|constructor
open Go.RowKit in
theorem Tryz.strings_TrimRight_one (s:ByteArray) (c:UInt8) (hc:c.toNat<128) (w:World) (hs:s.size≤9223372036854775807) :
  Calls Tryz.prog 272 #[.string s,.string ⟨#[c]⟩] w fun e w'=>e=.returned (.string ⟨(Lib.trimRightB s.data.toList c).toArray⟩)∧w'=w:=Any.strings_TrimRight_one Tryz.lays162 s c hc w hs
def Tryz.lays137_ren:Go.Shelf.Ren:=⟨fun|137=>203|217=>252|266=>291|n=>n,fun|9=>9|5=>5|3=>3|n=>n,fun n=>n⟩
theorem Tryz.lays137:Go.Proofs.Lays.n137 Tryz.prog Tryz.lays137_ren:=by repeat' first|kernel_rfl|exact fun _=>rfl|decide|constructor
open Go.RowKit in
theorem Tryz.strings_IndexByte (s:ByteArray) (c:Int) (w:World) :
  Calls Tryz.prog 203 #[.string s,.int .u8 c] w fun e w'=>e=.returned (.int .i64 (Lib.indexByte s.data.toList c.toNat.toUInt8))∧w'=w:=Any.strings_IndexByte Tryz.lays137 s c w
open Go.RowKit in
theorem Tryz.Builder_String_any_k (B b:Nat) (l:List UInt8) (w:World) (h:Lib.IsBuilderF 185 5 B b (Lib.byteCells l) w) (hBw:B≤w.heap.size) :
  Calls Tryz.prog 92 #[.pointer (some ⟨b,0,none⟩)] w fun e w'=>e=.returned (.string ⟨l.toArray⟩)∧(Lib.IsBuilderF 185 5 B b (Lib.byteCells l) w'∧Below B w w'∧Lib.OthersKept 5 (some b) w w'):=Any.Builder_String_any_k Tryz.lays169 Tryz.Builder_Extra_169 B b l w h hBw
def Tryz.laysM173_ren:Go.Shelf.Ren:=⟨fun|173=>238|246=>271|283=>300|284=>301|285=>302|286=>303|129=>327|317=>328|318=>329|319=>330|320=>331|337=>342|338=>343|n=>n,fun|2=>2|3=>3|9=>9|4=>4|171=>350|0=>0|53=>38|37=>134|5=>5|173=>352|212=>372|51=>345|20=>20|213=>373|46=>320|232=>391|233=>392|n=>n,fun|17=>3|18=>6|19=>7|n=>n⟩
theorem Tryz.laysM173:Go.Proofs.LaysM.n173 Tryz.prog Tryz.laysM173_ren:=by repeat' first|kernel_rfl|exact fun _=>rfl|decide|constructor
open Go.RowKit Go.Sort Go.Lib in
theorem Tryz.strconv_FormatInt_10 (n : Int) (h0 : -9223372036854775808 ≤ n) (h1 : n ≤ 9223372036854775807) (w : World) (htab : Lib.TabIs Tryz.prog w "internal/strconv.uint64pow10" .u64 Lib.pow10Tab) :
  Calls Tryz.prog 238 #[.int .i64 n,.int .i64 10] w fun e w'=>e=.returned (.string ⟨(Lib.itoa n).toArray⟩)∧∃k os,w'=grow (w.drewN k) os:=Any.strconv_FormatInt_10 Tryz.laysM173 n h0 h1 w htab
def Tryz.laysC174_ren:Go.Shelf.Ren:=⟨fun|174=>290|247=>315|245=>316|287=>337|279=>338|280=>339|281=>340|282=>341|321=>349|322=>350|316=>351|171=>353|205=>352|243=>355|246=>271|283=>300|284=>301|285=>302|286=>303|129=>327|317=>328|318=>329|319=>330|320=>331|337=>342|338=>343|n=>n,fun|9=>9|3=>3|2=>2|75=>188|85=>339|4=>4|167=>378|5=>5|53=>38|175=>379|46=>320|168=>381|37=>134|0=>0|210=>389|21=>21|127=>236|145=>399|143=>397|171=>350|173=>352|212=>372|51=>345|20=>20|213=>373|232=>391|233=>392|80=>126|n=>n,fun|15=>4|16=>5|17=>3|18=>6|19=>7|n=>n⟩
theorem Tryz.laysC174:Go.Proofs.LaysC.n174 Tryz.prog Tryz.laysC174_ren:=by repeat' first|kernel_rfl|exact fun _=>rfl|decide|constructor
open Go.RowKit in
theorem Tryz.strconv_ParseInt_10_at64_ok (s:ByteArray) (hmax:s.size≤9223372036854775806) (v:Int) (h:Lib.parseIntB 64 s.data.toList=.ok v) (w:World) :
  Calls Tryz.prog 290 #[.string s,.int .i64 10,.int .i64 64] w fun e w'=>e=.returned (.tuple #[.int .i64 v,.nilIface])∧(w'=w∨∃t,w'=Lib.bytesWorld w 5 t):=Any.strconv_ParseInt_10_at64_ok Tryz.laysC174 s hmax v h w
open Go.RowKit in
theorem Tryz.strconv_ParseInt_10_at64_syntax_var (s : ByteArray) (hlim : s.size ≤ 281474976710656) (h : Lib.parseIntB 64 s.data.toList = Lib.NumEnd.syntax) (tp : TypeId) (p : Value) (w : World) (hvar : w.var? Tryz.prog "strconv.ErrSyntax" = some #[.iface tp p]) :
  Calls Tryz.prog 290 #[.string s,.int .i64 10,.int .i64 64] w fun e w'=>∃N,e=.returned (.tuple #[.int .i64 (0),.iface 381 (.pointer (some ⟨N,0,none⟩))])∧w.heap.size≤N∧w'.heap[N]?=some (.cells #[.string ⟨#[80,97,114,115,101,73,110,116]⟩,.string s,.iface tp p] 389 (0,0))∧Below w.heap.size w w':=Any.strconv_ParseInt_10_at64_syntax_var Tryz.laysC174 s hlim h tp p w hvar
open Go.RowKit in
theorem Tryz.strconv_ParseInt_10_at64_range_var (s : ByteArray) (hlim : s.size ≤ 281474976710656) (h : Lib.parseIntB 64 s.data.toList = .range) (tp : TypeId) (p : Value) (w : World) (hvar : w.var? Tryz.prog "strconv.ErrRange" = some #[.iface tp p]) :
  Calls Tryz.prog 290 #[.string s,.int .i64 10,.int .i64 64] w fun e w'=>∃N,e=.returned (.tuple #[.int .i64 (Lib.intSat 64 s.data.toList),.iface 381 (.pointer (some ⟨N,0,none⟩))])∧w.heap.size≤N∧w'.heap[N]?=some (.cells #[.string ⟨#[80,97,114,115,101,73,110,116]⟩,.string s,.iface tp p] 389 (0,0))∧Below w.heap.size w w':=Any.strconv_ParseInt_10_at64_range_var Tryz.laysC174 s hlim h tp p w hvar
def Tryz.laysM144_ren:Go.Shelf.Ren:=⟨fun|144=>123|143=>182|219=>229|217=>252|225=>264|224=>265|267=>266|266=>291|314=>297|n=>n,fun|9=>9|4=>4|3=>3|5=>5|46=>320|146=>346|51=>345|n=>n,fun|1=>0|n=>n⟩
theorem Tryz.laysM144:Go.Proofs.LaysM.n144 Tryz.prog Tryz.laysM144_ren:=by repeat' first|kernel_rfl|exact fun _=>rfl|decide|exact fun w h=>Go.Proofs.cell_of_shapedOpen_int (zero:=#[.int .i64 0]) (t:=3) h (of_decide_eq_true (by kernel_rfl)) (by kernel_rfl) rfl (by kernel_rfl) (by kernel_rfl) Tryz.underlying3|constructor
open Go.RowKit in
theorem Tryz.strings_Contains_shaped (s sub:ByteArray) (w:World) (h:w.ShapedOpen Tryz.prog) (hs:s.size<4294967281) :
  Calls Tryz.prog 123 #[.string s,.string sub] w fun e w'=>e=.returned (.bool (Lib.contains s.data.toList sub.data.toList))∧w'=w:=Any.strings_Contains_shaped Tryz.laysM144 s sub w h hs
def Tryz.laysM145_ren:Go.Shelf.Ren:=⟨fun|145=>287|220=>312|219=>229|217=>252|225=>264|224=>265|267=>266|266=>291|314=>297|n=>n,fun|9=>9|4=>4|59=>337|3=>3|5=>5|46=>320|146=>346|51=>345|n=>n,fun|1=>0|n=>n⟩
theorem Tryz.laysM145:Go.Proofs.LaysM.n145 Tryz.prog Tryz.laysM145_ren:=by repeat' first|kernel_rfl|exact fun _=>rfl|decide|exact fun w h=>Go.Proofs.cell_of_shapedOpen_int (zero:=#[.int .i64 0]) (t:=3) h (of_decide_eq_true (by kernel_rfl)) (by kernel_rfl) rfl (by kernel_rfl) (by kernel_rfl) Tryz.underlying3|constructor
open Go.RowKit in
theorem Tryz.strings_Cut_shaped (s sep:ByteArray) (w:World) (h:w.ShapedOpen Tryz.prog) (hs:s.size<4294967281) :
  Calls Tryz.prog 287 #[.string s,.string sep] w fun e w'=>e=.returned (.tuple #[.string ⟨(Lib.cut s.data.toList sep.data.toList).1.toArray⟩,.string ⟨(Lib.cut s.data.toList sep.data.toList).2.1.toArray⟩,.bool (Lib.cut s.data.toList sep.data.toList).2.2])∧∃n,w'=w.drewN n:=Any.strings_Cut_shaped Tryz.laysM145 s sep w h hs
def Tryz.laysM155_ren:Go.Shelf.Ren:=⟨fun|155=>273|154=>308|138=>335|165=>90|143=>182|166=>91|197=>336|169=>92|195=>346|218=>347|240=>147|241=>148|219=>229|260=>348|276=>199|277=>200|217=>252|225=>264|224=>265|267=>266|266=>291|314=>297|n=>n,fun|9=>9|3=>3|4=>4|72=>185|0=>0|76=>189|105=>375|21=>21|5=>5|70=>183|20=>20|37=>134|75=>188|127=>236|164=>272|46=>320|119=>393|139=>396|138=>395|146=>346|51=>345|80=>126|n=>n,fun|1=>0|3=>8|4=>9|n=>n⟩
theorem Tryz.laysM155:Go.Proofs.LaysM.n155 Tryz.prog Tryz.laysM155_ren:=by repeat' first|kernel_rfl|exact fun _=>rfl|decide|exact fun w h=>Go.Proofs.cell_of_shapedOpen_int (zero:=#[.int .i64 0]) (t:=3) h (of_decide_eq_true (by kernel_rfl)) (by kernel_rfl) rfl (by kernel_rfl) (by kernel_rfl) Tryz.underlying3|constructor
theorem Tryz.Builder_Extra_M155:Builder.Extra Tryz.prog Tryz.laysM155_ren:=by repeat' first|kernel_rfl|exact fun _=>rfl|decide|constructor
open Go.RowKit in
theorem Tryz.strings_ReplaceAll_shaped (s old new:ByteArray) (w:World) (h:w.ShapedOpen Tryz.prog) (hs:s.size<4294967281) (h1:1≤old.size) (hlen:s.size+Lib.countB s old * new.size≤140737488355328) :
  Calls Tryz.prog 273 #[.string s,.string old,.string new] w fun e w' =>
   e=.returned (.string ⟨(Lib.replaceAll s.data.toList old.data.toList new.data.toList).toArray⟩)∧Below w.heap.size w w':=Any.strings_ReplaceAll_shaped Tryz.laysM155 Tryz.Builder_Extra_M155 s old new w h hs h1 hlen
def Tryz.lays167_ren:Go.Shelf.Ren:=⟨fun|167=>311|240=>147|276=>199|n=>n,fun|0=>0|4=>4|5=>5|9=>9|20=>20|37=>134|70=>183|72=>185|75=>188|80=>126|164=>272|n=>n,fun n=>n⟩
theorem Tryz.lays167:Go.Proofs.Lays.n167 Tryz.prog Tryz.lays167_ren:=by repeat' first|kernel_rfl|exact fun _=>rfl|decide|constructor
theorem Tryz.Builder_Extra_167:Builder.Extra Tryz.prog Tryz.lays167_ren:=by repeat' first|kernel_rfl|exact fun _=>rfl|decide|constructor
open Go.RowKit in
theorem Tryz.Builder_WriteByte_k (B b:Nat) (bs:List Value) (c:Int) (w:World) (h:Lib.IsBuilderF 185 5 B b bs w) (hlen:bs.length+1≤140737488355328) (hBw:B≤w.heap.size) :
  Calls Tryz.prog 311 #[.pointer (some ⟨b,0,none⟩),.int .u8 c] w fun e w'=>e=.returned .nilIface∧(Lib.BuilderAtF 185 5 B b (.pointer (some ⟨b,0,none⟩)) (bs++[.int .u8 c]) w'∧Below B w w'∧Lib.OthersKept 5 (some b) w w'):=Any.Builder_WriteByte_k Tryz.lays167 Tryz.Builder_Extra_167 B b bs c w h hlen hBw
end Go.Proofs
namespace Go.Proofs
open Go.RowKit
def unq8:List UInt8→List UInt8
 |[]=>[]
 |[_]=>[]
 |c::d::r=>if c=92 then d::unq8 r else c::unq8 (d::r)
def drop1(s:ByteArray)(k:Nat)(h:k<s.size):s.data.toList.drop k=s[k]::s.data.toList.drop (k+1):=by
 rw[List.drop_eq_getElem_cons (by exact h)];rfl
def drop2(s:ByteArray)(k:Nat)(h:k+1<s.size):s.data.toList.drop k=s[k]::s[k+1]::s.data.toList.drop (k+2):=by
 rw[drop1 s k (by omega),drop1 s (k+1) h]
def yCJ{c:UInt8}(h:((c.toNat:Int)==92)=true):c=92:=by
 have:c.toNat=92:=by have h':=beq_iff_eq.1 h;omega
 exact UInt8.toNat_inj.1 this
def zYd{c:UInt8}(h:((c.toNat:Int)==92)=false):c≠92:=by
 rintro rfl;simp at h
set_option maxHeartbeats 4000000 in
set_option maxRecDepth 1000000 in
theorem Tryz.text_walk (s:ByteArray) (w:World) (hs:s.size≤4294967296) :
  Calls Tryz.prog 285 #[.string s] w fun e w'=>e=.returned (.tuple #[.agg #[.int .u8 3,.int .i64 0,.string ⟨(unq8 (s.data.toList.drop 1)).toArray⟩],.int .i64 0])∧Below w.heap.size w w':=by
 go_enter Tryz.func285,Tryz.ntmps285
 go_wp2
 go_loopw [5] (fun v wr=>∃(k:Nat) (acc:List UInt8),v=.int .i64 (k:Int)∧1≤k∧(k≤s.size∨k=1)∧Lib.IsBuilderF 185 5 (w.heap.size+1) (w.heap.size+1) (Lib.byteCells acc) wr∧Below (w.heap.size+1) (w.alloc (.cells #[.int .u8 0,.int .i64 0,.string ⟨#[]⟩] 49)) wr∧acc++unq8 (s.data.toList.drop k)=unq8 (s.data.toList.drop 1)∧acc.length≤k) (fun v _=>s.size - (RowKit.intOf v).toNat)
 case atStart =>
  refine⟨1,[],rfl,Nat.le_refl _,.inr rfl,?_,((Below.refl _ _).alloc (by simp) _),rfl,by simp⟩;have:=Lib.IsBuilderF.of (Lib.fresh_isBuilder 185 5 (w.alloc (.cells #[.int .u8 0,.int .i64 0,.string ⟨#[]⟩] 49)));have e:(w.alloc (.cells #[.int .u8 0,.int .i64 0,.string ⟨#[]⟩] 49)).heap.size=w.heap.size+1:=by simp
  rw[e] at this;exact this
 case round =>
  obtain⟨k,acc,rfl,hk1,hk2,hI,hbw,hacc,hal⟩:=hrel;have hw1:IntKind.i64.wrap ((s.size:Int) - 1)=(s.size:Int) - 1:=by rw[Go.Ab.wrap64]<;>omega
  have hsz:w.heap.size+1≤wr.heap.size:=by have:=hbw.size;simp at this;omega
  by_cases hp:(k:Int)<(s.size:Int) - 1
  ·go_wp2_with (go_at_call 311;refine(Tryz.Builder_WriteByte_k (w.heap.size+1) (w.heap.size+1) _ _ _ hI (by rw[Lib.byteCells_length];omega) hsz).mono ?_)
   ·rintro e W1 ⟨rfl,h1,b1,k1⟩;have hd:s.data.toList.drop k=s[k]::s[k+1]::s.data.toList.drop (k+2):=drop2 s k (by omega);have h92:s[k]=92:=yCJ (by assumption)
    go_wp2
    go_roundw
    case rel =>
     refine⟨k+2,acc++[s[k+1]],by go_num,by omega,.inl (by omega),?_,hbw.trans b1,?_,by simp;omega⟩
     ·rw[Lib.byteCells_append];exact Or.inr h1
     rw[← hacc,hd,h92];simp [unq8]
    case measure =>
     simp only[intOf];omega
   rintro e W1 ⟨rfl,h1,b1,k1⟩;have hd:s.data.toList.drop k=s[k]::s[k+1]::s.data.toList.drop (k+2):=drop2 s k (by omega);have hd1:s.data.toList.drop (k+1)=s[k+1]::s.data.toList.drop (k+2):=drop1 s (k+1) (by omega);have h92:s[k]≠92:=zYd (by assumption)
   go_wp2
   go_roundw
   case rel =>
    refine⟨k+1,acc++[s[k]],by go_num,by omega,.inl (by omega),?_,hbw.trans b1,?_,by simp;omega⟩
    ·rw[Lib.byteCells_append];exact Or.inr h1
    rw[← hacc,hd,hd1];simp [unq8,h92]
   case measure =>
    simp only[intOf];omega
  go_wp2_with (go_at_call 92;refine(Tryz.Builder_String_any_k (w.heap.size+1) (w.heap.size+1) acc _ hI hsz).mono ?_)
  rintro e W1 rfl _ b1 _;have hb0:W1.heap[w.heap.size]?=some (.cells #[.int .u8 0,.int .i64 0,.string ⟨#[]⟩] 49):=by
   rw[b1.block _ (by omega),hbw.block _ (by omega)]
   show (w.heap.push _)[w.heap.size]?=_
   rw[Array.getElem?_push_size]
  have hend:unq8 (s.data.toList.drop k)=[]:=by
   have:(s.data.toList.drop k).length≤1:=by
    have:s.data.toList.length=s.size:=rfl;rw[List.length_drop];omega
   match s.data.toList.drop k,this with
   |[],_=>rfl
   |[_],_=>rfl
  rw[hend,List.append_nil] at hacc;have c0:W1.cell? ⟨w.heap.size,0,none⟩=some (.int .u8 0):=by simp [World.cell?,hb0]
  have c1:W1.cell? ⟨w.heap.size,1,none⟩=some (.int .i64 0):=by simp [World.cell?,hb0]
  have c2:W1.cell? ⟨w.heap.size,2,none⟩=some (.string ⟨#[]⟩):=by simp [World.cell?,hb0]
  have f0:W1.frozen? ⟨w.heap.size,0,none⟩=false:=by simp [World.frozen?,hb0]
  have f1:W1.frozen? ⟨w.heap.size,1,none⟩=false:=by simp [World.frozen?,hb0]
  have f2:W1.frozen? ⟨w.heap.size,2,none⟩=false:=by simp [World.frozen?,hb0]
  have hbB:Below w.heap.size w W1:=(((Below.refl _ w).alloc (Nat.le_refl _) _).trans (hbw.mono (by omega))).trans (b1.mono (by omega));have hb2:∀o:Value,(((W1.setCell ⟨w.heap.size,0,none⟩ (.int .u8 3)).setCell ⟨w.heap.size,1,none⟩ (.int .i64 0)).setCell ⟨w.heap.size,2,none⟩ o).heap[w.heap.size]?=some (.cells #[.int .u8 3,.int .i64 0,o] 49):=fun o=>by
   simp [World.setCell,Array.getElem?_modify,hb0]
  have hb3:∀o:Value,Below w.heap.size w (((W1.setCell ⟨w.heap.size,0,none⟩ (.int .u8 3)).setCell ⟨w.heap.size,1,none⟩ (.int .i64 0)).setCell ⟨w.heap.size,2,none⟩ o):=fun o =>
   ((hbB.setCell (Nat.le_refl _) _).setCell (Nat.le_refl _) _).setCell (Nat.le_refl _) _
  have HB:Go.Ab.Hid _:=⟨hb2⟩
  have HC:Go.Ab.Hid _:=⟨hb3⟩
  clear hbw b1 hb0 hI hend hb2 hb3 hbB;obtain⟨out,HO⟩:∃out,Go.Ab.Hid (unq8 (s.data.toList.drop 1)=out):=⟨_,⟨rfl⟩⟩;rw[HO.h] at hacc
  go_wp2
  have hb2:=HB.h (.string ⟨out.toArray⟩);have hb3:=HC.h (.string ⟨out.toArray⟩);generalize ((W1.setCell ⟨w.heap.size,0,none⟩ (.int .u8 3)).setCell ⟨w.heap.size,1,none⟩ (.int .i64 0)).setCell ⟨w.heap.size,2,none⟩ (.string ⟨out.toArray⟩)=W2 at hb2 hb3 ⊢;have d0:W2.cell? ⟨w.heap.size,0,none⟩=some (.int .u8 3):=by simp [World.cell?,hb2]
  have d1:W2.cell? ⟨w.heap.size,1,none⟩=some (.int .i64 0):=by simp [World.cell?,hb2]
  have d2:W2.cell? ⟨w.heap.size,2,none⟩=some (.string ⟨out.toArray⟩):=by simp [World.cell?,hb2]
  have hl:(loadVar 49 ⟨w.heap.size,0,none⟩).run Tryz.prog W2=.ok (.agg #[.int .u8 3,.int .i64 0,.string ⟨out.toArray⟩]) W2:=by
   simp [loadVar,loadCells,loadCellsFrom,run_load,Tryz.isAgg49,Tryz.sizeOf49,d0,d1,d2,Result.andThen,Addr.add_lit]
  have hrs:Tryz.f285.results=#[.cell 2 49,.tmp 3]:=by kernel_rfl
  refine bodyPost_ret (v:=.tuple #[.agg #[.int .u8 3,.int .i64 0,.string ⟨out.toArray⟩],.int .i64 0]) ?_ rfl ⟨?_,hb3⟩
  ·simp [Go.results,hrs,asAddr,hl,Result.andThen]
  rw[HO.h]
end Go.Proofs
namespace Go.Ab
open Go.Proofs
def zL1{P:Program}{w0 w:World}{γ:G}(h:w0.ShapedOpen P)(hb:Base w0 γ w):w.ShapedOpen P:=by
 have hk:w0.keptBut { w with os:=w0.os,output:=w0.output } (fun _=>False) :=
  zH2 (w:=w0) (w':={ w with os:=w0.os,output:=w0.output }) (fun b hb'=>(hb.2 b hb').1) ⟨rfl,rfl⟩ _
 have h2:World.ShapedOpen P { w with os:=w0.os,output:=w0.output }:=h.keptBut hk (fun p hp=>hp.elim);exact h2.of_heap rfl
def zGf{P:Program}{w0 w:World}{γ:G}{n:String}{cs:Array Value}(h:w0.var? P n=some cs)(hb:Base w0 γ w):w.var? P n=some cs:=by
 unfold World.var? at *;cases hg:P.globalNamed n with
 |none=>simp [hg] at h
 |some g =>
  simp only[hg,Option.bind_some] at h ⊢;have hlt:g<w0.heap.size:=by
   rcases Nat.lt_or_ge g w0.heap.size with h'|h'
   ·exact h'
   rw[Array.getElem?_eq_none h'] at h;simp at h
  rw[(hb.2 g hlt).1];exact h
def zOB {w:World} {C:Cfg} {f:FuncId} {args:List AV} {v:AV} {vs:List Value} (hm:C.P.follows .mixedOrders=true) (hf:f<C.P.funcs.size) (hpr:uV C w) (h:Om C f args []=some (.val v,[]))
  (hv:∀(γ:G) (g:Look),γ.imm=zG5 w→VRs γ g args vs) (hb:v=.t (.bool true)) :
  Calls C.P f vs.toArray w fun e w'=>e=.returned (.bool true)∧(∀b,b<w.heap.size→w'.heap[b]?=w.heap[b]?)∧w'.os=w.os∧w'.output=w.output:=by
 have ho:=zV6 (C:=C) (w0:=w) hm hpr f args [] _ _ h
 let γ:G:=⟨fun _=>none,fun _=>0,zG5 w⟩
 have hr:HR γ (nth []) w:=⟨fun id b h=>(by cases h),fun id id' b h=>(by cases h),fun b o v h=>h⟩
 have hbase:Base w γ w:=⟨Nat.le_refl _,fun b hb=>⟨rfl,fun id h=>(by cases h)⟩⟩
 refine((ho γ w vs hr hbase (hv γ _ rfl)).calls hf).mono fun e w' hp=>?_
 obtain⟨γ',h1,h2,h3,h4,h5⟩:=hp;subst hb;refine⟨?_,fun b hb=>(hbase.mono h2).2 b hb |>.1,h2.same⟩;cases e with
 |returned u =>
  have hu:VR γ' (nth []) (.t (.bool true)) u:=h5;cases hu with
  |t _ _ hu=>cases hu;rfl
 |panicked c=>exact False.elim h5
 |outgrown=>exact False.elim h5
def PQ(f:FuncId)(v:AV)(γ:G)(g:Look)(w:World)(vs:List Value):Prop :=
 Calls Tryz.prog f vs.toArray w fun e w'=>∃u,e=.returned u∧VR γ g v u∧(w'.os=w.os∧w'.output=w.output)∧w.heap.size≤w'.heap.size∧∀b,b<w.heap.size→w'.heap[b]?=w.heap[b]?
def arr(s:List Nat):ByteArray:=⟨(s.map UInt8.ofNat).toArray⟩
def qE(s:List Nat):(arr s).data.toList=ub s:=by simp [arr,ub]
def kV(s:List Nat):(arr s).size=s.length:=by simp [arr,ByteArray.size]
def yHv(l:List UInt8):∀b ∈ nb l,b<256:=by
 intro b hb;obtain⟨c,_,rfl⟩:=List.mem_map.1 hb;exact c.toNat_lt
def yHy(l:List UInt8):ub (nb l)=l:=by
 unfold ub nb;rw[List.map_map];have:(UInt8.ofNat ∘ UInt8.toNat)=id:=by funext c;simp
 rw[this,List.map_id]
def zFF(I:Imm)(l:List UInt8):TR I (.str (nb l)) (.string ⟨l.toArray⟩):=by
 have h:=TR.str (I:=I) (nb l) (yHv l);have e:(nb l).map UInt8.ofNat=l:=yHy l;rw[e] at h;exact h
def zDT{w w':World}(h:RowKit.Below w.heap.size w w'):(w'.os=w.os∧w'.output=w.output)∧w.heap.size≤w'.heap.size∧∀b,b<w.heap.size→w'.heap[b]?=w.heap[b]?:=⟨⟨h.os,h.output⟩,h.size,fun b hb=>h.block b hb⟩
def zGC{w w':World}(h:w'=w):(w'.os=w.os∧w'.output=w.output)∧w.heap.size≤w'.heap.size∧∀b,b<w.heap.size→w'.heap[b]?=w.heap[b]?:=by
 subst h;exact⟨⟨rfl,rfl⟩,Nat.le_refl _,fun _ _=>rfl⟩
def jY{γ:G}{g:Look}{s:List Nat}{v:Value}(h:VR γ g (.t (.str s)) v):v=.string (arr s)∧∀b ∈ s,b<256:=by
 cases h with
 |t _ _ h=>cases h with|str s hs=>exact⟨rfl,hs⟩
def zGy{γ:G}{g:Look}{k:IntKind}{n:Int}{v:Value}(h:VR γ g (.t (.int k n)) v):v=.int k n:=by
 cases h with
 |t _ _ h=>cases h;rfl
def yBs{args:List AV}{v:AV}{γ:G}{g:Look}{w:World}{vs:List Value}(hp:zEP args=some v)(hvs:VRs γ g args vs):PQ 203 v γ g w vs:=by
 unfold zEP at hp;split at hp
 ·rename_i s c;cases hp;obtain⟨v1,vs1,rfl,h1,hvs1⟩:=hvs.cases_cons;obtain⟨v2,vs2,rfl,h2,hvs2⟩:=hvs1.cases_cons;obtain rfl:=hvs2.nil_inv;obtain⟨rfl,-⟩:=jY h1;obtain rfl:=zGy h2;refine(Tryz.strings_IndexByte (arr s) c w).mono fun e w' ⟨he,hw⟩=>⟨_,he,?_,zGC hw⟩
  rw[qE];exact .t _ _ (.int _ _)
 cases hp
def yEf{args:List AV}{v:AV}{γ:G}{g:Look}{w:World}{vs:List Value}(hs:w.ShapedOpen Tryz.prog)(hp:zDw args=some v)(hvs:VRs γ g args vs):PQ 123 v γ g w vs:=by
 unfold zDw at hp;split at hp
 ·rename_i s c;cases hl:Nat.blt s.length 4294967281 with
  |false=>rw[hl] at hp;cases hp
  |true =>
   rw[hl] at hp;cases hp;rw[Nat.blt_eq] at hl;obtain⟨v1,vs1,rfl,h1,hvs1⟩:=hvs.cases_cons;obtain⟨v2,vs2,rfl,h2,hvs2⟩:=hvs1.cases_cons;obtain rfl:=hvs2.nil_inv;obtain⟨rfl,-⟩:=jY h1;obtain⟨rfl,-⟩:=jY h2;refine(Tryz.strings_Contains_shaped (arr s) (arr c) w hs (by rw[kV];exact hl)).mono fun e w' ⟨he,hw⟩=>⟨_,he,?_,zGC hw⟩
   rw[qE,qE];exact .t _ _ (.bool _)
 cases hp
def yDp{args:List AV}{v:AV}{γ:G}{g:Look}{w:World}{vs:List Value}(hs:w.ShapedOpen Tryz.prog)(hp:zJi args=some v)(hvs:VRs γ g args vs):PQ 287 v γ g w vs:=by
 unfold zJi at hp;split at hp
 ·rename_i s c;cases hl:Nat.blt s.length 4294967281 with
  |false=>rw[hl] at hp;cases hp
  |true =>
   rw[hl] at hp;cases hp;rw[Nat.blt_eq] at hl;obtain⟨v1,vs1,rfl,h1,hvs1⟩:=hvs.cases_cons;obtain⟨v2,vs2,rfl,h2,hvs2⟩:=hvs1.cases_cons;obtain rfl:=hvs2.nil_inv;obtain⟨rfl,-⟩:=jY h1;obtain⟨rfl,-⟩:=jY h2;refine(Tryz.strings_Cut_shaped (arr s) (arr c) w hs (by rw[kV];exact hl)).mono fun e w' ⟨he,n,hw⟩=>⟨_,he,?_,?_⟩
   ·rw[qE,qE];refine VR.tup (vs:=[_,_,_]) _ rfl fun i c' v' hc hv=>?_
    match i,hc,hv with
    |0,hc,hv=>cases hc;cases hv;exact .t _ _ (zFF _ _)
    |1,hc,hv=>cases hc;cases hv;exact .t _ _ (zFF _ _)
    |2,hc,hv=>cases hc;cases hv;exact .t _ _ (.bool _)
    |n+3,hc,hv=>simp at hc
   subst hw;exact⟨⟨rfl,rfl⟩,Nat.le_refl _,fun _ _=>rfl⟩
 cases hp
def yDy{args:List AV}{v:AV}{γ:G}{g:Look}{w:World}{vs:List Value}(hs:w.ShapedOpen Tryz.prog)(hp:zB9 args=some v)(hvs:VRs γ g args vs):PQ 273 v γ g w vs:=by
 unfold zB9 at hp;split at hp
 ·rename_i s a b;cases hl:(Nat.blt s.length 4294967281&&Nat.ble 1 a.length&&Nat.ble (s.length+(s.length+1) * b.length) 140737488355328) with
  |false=>rw[hl] at hp;cases hp
  |true =>
   rw[hl] at hp;cases hp;simp only[Bool.and_eq_true,Nat.blt_eq,Nat.ble_eq] at hl;obtain⟨⟨l1,l2⟩,l3⟩:=hl;obtain⟨v1,vs1,rfl,h1,hvs1⟩:=hvs.cases_cons;obtain⟨v2,vs2,rfl,h2,hvs2⟩:=hvs1.cases_cons;obtain⟨v3,vs3,rfl,h3,hvs3⟩:=hvs2.cases_cons;obtain rfl:=hvs3.nil_inv;obtain⟨rfl,-⟩:=jY h1;obtain⟨rfl,-⟩:=jY h2;obtain⟨rfl,-⟩:=jY h3;have hc:Lib.countB (arr s) (arr a)≤(arr s).size:=Lib.countB_le (arr a) (by rw[kV];exact l2) _ (arr s) (Nat.le_refl _);have hm:Lib.countB (arr s) (arr a) * (arr b).size≤(s.length+1) * b.length:=by
    simp only[kV] at hc ⊢;exact Nat.mul_le_mul_right _ (by omega)
   refine(Tryz.strings_ReplaceAll_shaped (arr s) (arr a) (arr b) w hs (by rw[kV];exact l1) (by rw[kV];exact l2) (by simp only[kV] at hm ⊢;omega)).mono fun e w' ⟨he,hw⟩=>⟨_,he,?_,zDT hw⟩
   rw[qE,qE,qE];exact .t _ _ (zFF _ _)
 cases hp
def yEi{args:List AV}{v:AV}{γ:G}{g:Look}{w:World}{vs:List Value}(hp:zCQ args=some v)(hvs:VRs γ g args vs):PQ 272 v γ g w vs:=by
 unfold zCQ at hp;split at hp
 ·rename_i s c;cases hl:(Nat.blt c 128&&Nat.ble s.length 9223372036854775807) with
  |false=>rw[hl] at hp;cases hp
  |true =>
   rw[hl] at hp;cases hp;simp only[Bool.and_eq_true,Nat.blt_eq,Nat.ble_eq] at hl;obtain⟨l1,l2⟩:=hl;obtain⟨v1,vs1,rfl,h1,hvs1⟩:=hvs.cases_cons;obtain⟨v2,vs2,rfl,h2,hvs2⟩:=hvs1.cases_cons;obtain rfl:=hvs2.nil_inv;obtain⟨rfl,-⟩:=jY h1;obtain⟨rfl,-⟩:=jY h2;refine(Tryz.strings_TrimRight_one (arr s) (UInt8.ofNat c) (by simp;omega) w (by rw[kV];exact l2)).mono fun e w' ⟨he,hw⟩=>⟨_,he,?_,zGC hw⟩
   rw[qE];exact .t _ _ (zFF _ _)
 cases hp
def yDi {args : List AV} {v : AV} {γ : G} {g : Look} {w : World} {vs : List Value} (ht : Lib.TabIs Tryz.prog w "internal/strconv.uint64pow10" .u64 Lib.pow10Tab) (hp : zCH args = some v) (hvs : VRs γ g args vs) : PQ 238 v γ g w vs := by
 unfold zCH at hp;split at hp
 ·rename_i n;cases hl:(decide (-9223372036854775808≤n)&&decide (n≤9223372036854775807)) with
  |false=>rw[hl] at hp;cases hp
  |true =>
   rw[hl] at hp;cases hp;simp only[Bool.and_eq_true,decide_eq_true_eq] at hl;obtain⟨l1,l2⟩:=hl;obtain⟨v1,vs1,rfl,h1,hvs1⟩:=hvs.cases_cons;obtain⟨v2,vs2,rfl,h2,hvs2⟩:=hvs1.cases_cons;obtain rfl:=hvs2.nil_inv;obtain rfl:=zGy h1;obtain rfl:=zGy h2;refine(Tryz.strconv_FormatInt_10 n l1 l2 w ht).mono fun e w' ⟨he,k,os,hw⟩=>⟨_,he,.t _ _ (zFF _ _),?_⟩
   subst hw;refine⟨⟨rfl,rfl⟩,?_,fun b hb=>?_⟩
   ·show w.heap.size≤(w.heap++os).size
    simp
   show (w.heap++os)[b]?=_
   rw[Array.getElem?_append_left hb]
 cases hp
def yCI {args : List AV} {v : AV} {γ : G} {g : Look} {w : World} {vs : List Value} (hsyn : ∃ tp p, w.var? Tryz.prog "strconv.ErrSyntax" = some #[.iface tp p]) (hrng : ∃ tp p, w.var? Tryz.prog "strconv.ErrRange" = some #[.iface tp p])
  (hp:zDC args=some v) (hvs:VRs γ g args vs):PQ 290 v γ g w vs:=by
 obtain⟨tp1,q1,hsyn⟩:=hsyn;obtain⟨tp2,q2,hrng⟩:=hrng;unfold zDC at hp;split at hp
 ·rename_i s;cases hl:Nat.ble s.length 281474976710656 with
  |false=>rw[hl] at hp;cases hp
  |true =>
   rw[hl] at hp;simp only[Nat.ble_eq] at hl;obtain⟨v1,vs1,rfl,h1,hvs1⟩:=hvs.cases_cons;obtain⟨v2,vs2,rfl,h2,hvs2⟩:=hvs1.cases_cons;obtain⟨v3,vs3,rfl,h3,hvs3⟩:=hvs2.cases_cons;obtain rfl:=hvs3.nil_inv;obtain⟨rfl,-⟩:=jY h1;obtain rfl:=zGy h2;obtain rfl:=zGy h3;have e0:(arr s).data.toList=ub s:=qE s;dsimp only[cond_true] at hp;cases hpi:Lib.parseIntB 64 (ub s) with
   |ok n =>
    rw[hpi] at hp;cases hp;refine(Tryz.strconv_ParseInt_10_at64_ok (arr s) (by rw[kV];omega) n (by rw[e0];exact hpi) w).mono fun e w' ⟨he,hw⟩=>⟨_,he,?_,?_⟩
    ·refine VR.tup (vs:=[_,_]) _ rfl fun i c' v' hc hv=>?_
     match i,hc,hv with
     |0,hc,hv=>cases hc;cases hv;exact .t _ _ (.int _ _)
     |1,hc,hv=>cases hc;cases hv;exact .t _ _ .nilifc
     |n+2,hc,hv=>simp at hc
    rcases hw with hw|⟨t,hw⟩
    ·exact zGC hw
    subst hw;exact zDT (Lib.bytesWorld_below _ _ _)
   |range =>
    rw[hpi] at hp;cases hp;refine(Tryz.strconv_ParseInt_10_at64_range_var (arr s) (by rw[kV];exact hl) (by rw[e0];exact hpi) tp2 q2 w hrng).mono fun e w' ⟨N,he,_,_,hw⟩=>⟨_,he,?_,zDT hw⟩
    refine VR.tup (vs:=[_,_]) _ rfl fun i c' v' hc hv=>?_
    match i,hc,hv with
    |0,hc,hv=>cases hc;cases hv;rw[e0];exact .t _ _ (.int _ _)
    |1,hc,hv=>cases hc;cases hv;exact .ifx _ _
    |n+2,hc,hv=>simp at hc
   |_ =>
    rw[hpi] at hp;cases hp;refine(Tryz.strconv_ParseInt_10_at64_syntax_var (arr s) (by rw[kV];exact hl) (by rw[e0];exact hpi) tp1 q1 w hsyn).mono fun e w' ⟨N,he,_,_,hw⟩=>⟨_,he,?_,zDT hw⟩
    refine VR.tup (vs:=[_,_]) _ rfl fun i c' v' hc hv=>?_
    match i,hc,hv with
    |0,hc,hv=>cases hc;cases hv;exact .t _ _ (.int _ _)
    |1,hc,hv=>cases hc;cases hv;exact .ifx _ _
    |n+2,hc,hv=>simp at hc
 cases hp
def zMp:∀ {s:List Nat},(∀b ∈ s,b<256)→(unq s).map UInt8.ofNat=unq8 (s.map UInt8.ofNat)∧∀b ∈ unq s,b<256
 |[],_=>⟨rfl,by simp [unq]⟩
 |[_],_=>⟨rfl,by simp [unq]⟩
 |c::d::r,h=>by
  have hc:=h c (by simp);have hd:=h d (by simp);have h1:=zMp (s:=r) (fun b hb=>h b (by simp [hb]));have h2:=zMp (s:=d::r) (fun b hb=>h b (List.mem_cons_of_mem _ hb));have e:(UInt8.ofNat c=92)↔c=92:=by
   constructor
   ·intro he;have:=congrArg UInt8.toNat he;simp at this;omega
   rintro rfl;rfl
  unfold unq;simp only[List.map_cons,unq8]
  by_cases h92:c=92
  ·rw[if_pos h92,if_pos (e.2 h92)];refine⟨by rw[List.map_cons,h1.1],fun b hb=>?_⟩;rcases List.mem_cons.1 hb with rfl|hb
   ·exact hd
   exact h1.2 b hb
  rw[if_neg h92,if_neg (fun x=>h92 (e.1 x))];refine⟨by rw[List.map_cons,h2.1];rfl,fun b hb=>?_⟩;rcases List.mem_cons.1 hb with rfl|hb
  ·exact hc
  exact h2.2 b hb
def yBQ{args:List AV}{v:AV}{γ:G}{g:Look}{w:World}{vs:List Value}(hp:zGO args=some v)(hvs:VRs γ g args vs):PQ 285 v γ g w vs:=by
 unfold zGO at hp;split at hp
 ·rename_i s;cases hl:Nat.ble s.length 4294967296 with
  |false=>rw[hl] at hp;cases hp
  |true =>
   rw[hl] at hp;cases hp;rw[Nat.ble_eq] at hl;obtain⟨v1,vs1,rfl,h1,hvs1⟩:=hvs.cases_cons;obtain rfl:=hvs1.nil_inv;obtain⟨rfl,hsb⟩:=jY h1;obtain⟨u1,u2⟩:=zMp (s:=s.drop 1) (fun b hb=>hsb b (List.mem_of_mem_drop hb));refine(Tryz.text_walk (arr s) w (by rw[kV];exact hl)).mono fun e w' ⟨he,hw⟩=>⟨_,he,?_,zDT hw⟩
   have e1:unq8 ((arr s).data.toList.drop 1)=(unq (s.drop 1)).map UInt8.ofNat:=by
    rw[qE,u1];unfold ub;rw[List.map_drop]
   rw[e1];refine VR.tup (vs:=[_,_]) _ rfl fun i c' v' hc hv=>?_
   match i,hc,hv with
   |0,hc,hv =>
    cases hc;cases hv;refine .t _ _ (TR.agg (vs:=[_,_,_]) _ rfl fun i c' v' hc hv=>?_)
    match i,hc,hv with
    |0,hc,hv=>cases hc;cases hv;exact .int _ _
    |1,hc,hv=>cases hc;cases hv;exact .int _ _
    |2,hc,hv=>cases hc;cases hv;exact .str _ u2
    |n+3,hc,hv=>simp at hc
   |1,hc,hv=>cases hc;cases hv;exact .t _ _ (.int _ _)
   |n+2,hc,hv=>simp at hc
 cases hp
def zKU:∀ {es:List (List Tree)} {xs:List (List Nat)},uS es=some xs→es=xs.map fun x=>[.str x]
 |[],xs,h=>by cases h;rfl
 |[.str s]::es,xs,h=>by
  rw[uS] at h;cases hs:uS es with
  |none=>rw[hs] at h;cases h
  |some l =>
   rw[hs] at h;cases h;rw[zKU hs];rfl
 |[]::es,xs,h=>by simp [uS] at h
 |(.bool _::_)::es,xs,h=>by simp [uS] at h
 |(.int _ _::_)::es,xs,h=>by simp [uS] at h
 |(.sl _ _ _::_)::es,xs,h=>by simp [uS] at h
 |(.agg _::_)::es,xs,h=>by simp [uS] at h
 |(.ifc _ _::_)::es,xs,h=>by simp [uS] at h
 |(.nilifc::_)::es,xs,h=>by simp [uS] at h
 |(.fn _::_)::es,xs,h=>by simp [uS] at h
 |(.nilfn::_)::es,xs,h=>by simp [uS] at h
 |(.nilptr::_)::es,xs,h=>by simp [uS] at h
 |(.nilmap::_)::es,xs,h=>by simp [uS] at h
 |(.str _::_::_)::es,xs,h=>by simp [uS] at h
def yGU{args:List AV}{v:AV}{γ:G}{g:Look}{w:World}{vs:List Value}(hr:HR γ g w)(hp:zFI args=some v)(hvs:VRs γ g args vs):PQ 59 v γ g w vs:=by
 unfold zFI at hp;split at hp
 ·rename_i nl cl es sep;cases hx:uS es with
  |none=>rw[hx] at hp;cases hp
  |some xs =>
   rw[hx] at hp;dsimp only at hp;cases hl:(Nat.ble xs.length 140737488355328&&Nat.ble (Lib.join (xs.map ub) (ub sep)).length 140737488355328) with
   |false=>rw[hl] at hp;cases hp
   |true =>
    rw[hl] at hp;cases hp;simp only[Bool.and_eq_true,Nat.ble_eq] at hl;obtain⟨l1,l2⟩:=hl;obtain⟨v1,vs1,rfl,h1,hvs1⟩:=hvs.cases_cons;obtain⟨v2,vs2,rfl,h2,hvs2⟩:=hvs1.cases_cons;obtain rfl:=hvs2.nil_inv;obtain⟨rfl,-⟩:=jY h2;have hes:=zKU hx;subst hes;have e1:((xs.map arr).map fun x=>x.data.toList)=xs.map ub:=by
     rw[List.map_map];exact List.map_congr_left fun x _=>qE x
    cases h1 with
    |t _ _ h1 =>
    cases h1 with
    |sl _ _ _ a cap sz val h0 h1 h2 h3 h4 h5 h6 =>
    cases xs with
    |nil =>
     refine(Tryz.strings_Join_none a cap (arr sep) w).mono fun e w' ⟨he,hw⟩=>⟨_,he,?_,zGC hw⟩
     have:Lib.join (([]:List (List Nat)).map ub) (ub sep)=[]:=rfl;rw[this];exact .t _ _ (zFF _ [])
    |cons x0 xs' =>
     generalize hX:x0::xs'=xs at *;have hne:xs≠[]:=by rw[← hX];exact List.cons_ne_nil _ _
     have hm:(xs.map fun x=>[Tree.str x])≠[]:=fun h=>hne (List.map_eq_nil_iff.1 h)
     have hnl:nl=false:=by
      cases nl with
      |false=>rfl
      |true=>exact absurd (h0 rfl).2.1 hm
     obtain⟨_,b,o,ha,hcell⟩:=h1 hnl;have ha:=ha hm;subst ha;have hs1:sz=1:=by
      have:=h2 [Tree.str x0] (List.mem_map.2 ⟨x0,by rw[← hX];exact .head _,rfl⟩)
      simpa using this.symm
     subst hs1;have hget:∀(j:Nat) x,xs[j]?=some x→w.cell? ⟨b,o+j,none⟩=some (.string (arr x)):=by
      intro j x hj;have hj2:(xs.map fun x=>[Tree.str x])[j]?=some [Tree.str x]:=by rw[List.getElem?_map,hj];rfl
      have c1:=hr.imm _ _ _ (hcell j 0 _ _ hj2 rfl);have c2:=h3 j 0 _ _ hj2 rfl;have c3:val j 0=.string (arr x):=by
       generalize val j 0=u at c2;cases c2;rfl
      rw[c3] at c1
      simpa using c1
     have hbk:b<w.heap.size:=by
      have h00:xs[0]?=some x0:=by rw[← hX];rfl
      have:=hget 0 x0 h00;rcases Nat.lt_or_ge b w.heap.size with h|h
      ·exact h
      simp [World.cell?,Array.getElem?_eq_none h] at this
     have hJ:=Tryz.strings_Join b o cap (xs.map arr) (arr sep) w (fun j x hj=>by
       rw[List.getElem?_map] at hj;cases hx':xs[j]? with
       |none=>rw[hx'] at hj;cases hj
       |some y=>rw[hx'] at hj;cases hj;exact hget j y hx') hbk (by rw[List.length_map];exact l1) (by rw[List.length_map] at h4 ⊢;exact h4) (by rw[e1,qE];exact l2)
     rw[e1,qE,List.length_map] at hJ;unfold PQ;rw[List.length_map];refine hJ.mono fun e w' ⟨he,hw⟩=>⟨_,he,?_,zDT hw⟩
     exact .t _ _ (zFF _ _)
 cases hp
def yCT {w0 : World} (h0 : w0.ShapedOpen Tryz.prog) (ht : Lib.TabIs Tryz.prog w0 "internal/strconv.uint64pow10" .u64 Lib.pow10Tab)
  (hsyn : ∃ tp p, w0.var? Tryz.prog "strconv.ErrSyntax" = some #[.iface tp p]) (hrng : ∃ tp p, w0.var? Tryz.prog "strconv.ErrRange" = some #[.iface tp p]) : uV CC w0 := by
 refine⟨of_decide_eq_true (by kernel_rfl),fun f args v hp _ γ g w vs hr hb hvs=>?_⟩;have hs:=zL1 h0 hb
 have ht' : Lib.TabIs Tryz.prog w "internal/strconv.uint64pow10" .u64 Lib.pow10Tab := zGf ht hb
 have hsyn' : ∃ tp p, w.var? Tryz.prog "strconv.ErrSyntax" = some #[.iface tp p] := hsyn.imp fun _ h => h.imp fun _ h => zGf h hb
 have hrng' : ∃ tp p, w.var? Tryz.prog "strconv.ErrRange" = some #[.iface tp p] := hrng.imp fun _ h => h.imp fun _ h => zGf h hb
 change prims f args=some v at hp
 unfold prims at hp
 show PQ f v γ g w vs
 cases e1:Nat.beq f 203 with
 |true=>rw[e1] at hp;obtain rfl:=Nat.eq_of_beq_eq_true e1;exact yBs hp hvs
 |false =>
 rw[e1] at hp;cases e2:Nat.beq f 59 with
 |true=>rw[e2] at hp;obtain rfl:=Nat.eq_of_beq_eq_true e2;exact yGU hr hp hvs
 |false =>
 rw[e2] at hp;cases e3:Nat.beq f 123 with
 |true=>rw[e3] at hp;obtain rfl:=Nat.eq_of_beq_eq_true e3;exact yEf hs hp hvs
 |false =>
 rw[e3] at hp;cases e4:Nat.beq f 287 with
 |true=>rw[e4] at hp;obtain rfl:=Nat.eq_of_beq_eq_true e4;exact yDp hs hp hvs
 |false =>
 rw[e4] at hp;cases e5:Nat.beq f 273 with
 |true=>rw[e5] at hp;obtain rfl:=Nat.eq_of_beq_eq_true e5;exact yDy hs hp hvs
 |false =>
 rw[e5] at hp;cases e6:Nat.beq f 272 with
 |true=>rw[e6] at hp;obtain rfl:=Nat.eq_of_beq_eq_true e6;exact yEi hp hvs
 |false =>
 rw[e6] at hp;cases e7:Nat.beq f 238 with
 |true=>rw[e7] at hp;obtain rfl:=Nat.eq_of_beq_eq_true e7;exact yDi ht' hp hvs
 |false =>
 rw[e7] at hp;cases e8:Nat.beq f 290 with
 |true=>rw[e8] at hp;obtain rfl:=Nat.eq_of_beq_eq_true e8;exact yCI hsyn' hrng' hp hvs
 |false =>
 rw[e8] at hp;cases e9:Nat.beq f 285 with
 |true=>rw[e9] at hp;obtain rfl:=Nat.eq_of_beq_eq_true e9;exact yBQ hp hvs
 |false =>
 rw[e9] at hp;cases hp
end Go.Ab
namespace Go.Ab
open Go.Proofs Go.ChangeShapes Go.WideShapes
def uintOK(n:Int):Prop:=(Lit.int .i64 n).wf=true
def uplaceOK(p:Int×Int):Prop:=(Lit.int .i64 p.1).wf=true∧(Lit.int .i64 p.2).wf=true
def uplaceC(p:Int×Int):List Tree:=[.int .i64 p.1,.int .i64 p.2]
def ucells_2:Tryz.prog.cellsOf 2=1:=by kernel_rfl
def ucells_3:Tryz.prog.cellsOf 3=1:=by kernel_rfl
def ucells_4:Tryz.prog.cellsOf 4=1:=by kernel_rfl
def ucells_5:Tryz.prog.cellsOf 5=1:=by kernel_rfl
def ucells_9:Tryz.prog.cellsOf 9=1:=by kernel_rfl
def ucells_23:Tryz.prog.cellsOf 23=1:=by kernel_rfl
def ucells_25:Tryz.prog.cellsOf 25=2:=by kernel_rfl
def ucells_27:Tryz.prog.cellsOf 27=5:=by kernel_rfl
def ucells_28:Tryz.prog.cellsOf 28=1:=by kernel_rfl
def ucells_30:Tryz.prog.cellsOf 30=3:=by kernel_rfl
def ucells_41:Tryz.prog.cellsOf 41=1:=by kernel_rfl
def ucells_43:Tryz.prog.cellsOf 43=4:=by kernel_rfl
def ucells_45:Tryz.prog.cellsOf 45=1:=by kernel_rfl
def ucells_47:Tryz.prog.cellsOf 47=2:=by kernel_rfl
def ucells_49:Tryz.prog.cellsOf 49=3:=by kernel_rfl
def ucells_51:Tryz.prog.cellsOf 51=4:=by kernel_rfl
def ucells_54:Tryz.prog.cellsOf 54=2:=by kernel_rfl
def ucells_69:Tryz.prog.cellsOf 69=1:=by kernel_rfl
def ucells_70:Tryz.prog.cellsOf 70=1:=by kernel_rfl
def ucells_72:Tryz.prog.cellsOf 72=8:=by kernel_rfl
def ucells_74:Tryz.prog.cellsOf 74=8:=by kernel_rfl
def uflds_25:∃fs,Tryz.prog.underlying 25=some (.struct fs)∧fs.toList.map (fun f=>(f.type,f.offset))=[(3,0),(3,1)]:=⟨_,Tryz.underlying25,by kernel_rfl⟩
def uflds_49:∃fs,Tryz.prog.underlying 49=some (.struct fs)∧fs.toList.map (fun f=>(f.type,f.offset))=[(5,0),(2,1),(9,2)]:=⟨_,Tryz.underlying49,by kernel_rfl⟩
def uflds_54:∃fs,Tryz.prog.underlying 54=some (.struct fs)∧fs.toList.map (fun f=>(f.type,f.offset))=[(9,0),(5,1)]:=⟨_,Tryz.underlying54,by kernel_rfl⟩
def uflds_47:∃fs,Tryz.prog.underlying 47=some (.struct fs)∧fs.toList.map (fun f=>(f.type,f.offset))=[(9,0),(45,1)]:=⟨_,Tryz.underlying47,by kernel_rfl⟩
def uflds_30:∃fs,Tryz.prog.underlying 30=some (.struct fs)∧fs.toList.map (fun f=>(f.type,f.offset))=[(3,0),(3,1),(28,2)]:=⟨_,Tryz.underlying30,by kernel_rfl⟩
def uflds_51:∃fs,Tryz.prog.underlying 51=some (.struct fs)∧fs.toList.map (fun f=>(f.type,f.offset))=[(9,0),(49,1)]:=⟨_,Tryz.underlying51,by kernel_rfl⟩
def uflds_74:∃fs,Tryz.prog.underlying 74=some (.struct fs)∧fs.toList.map (fun f=>(f.type,f.offset))=[(5,0),(49,1),(9,4),(70,5),(25,6)]:=⟨_,Tryz.underlying74,by kernel_rfl⟩
def uflds_72:∃fs,Tryz.prog.underlying 72=some (.struct fs)∧fs.toList.map (fun f=>(f.type,f.offset))=[(5,0),(69,1),(69,2),(4,3),(4,4),(70,5),(25,6)]:=⟨_,Tryz.underlying72,by kernel_rfl⟩
def uflds_43:∃fs,Tryz.prog.underlying 43=some (.struct fs)∧fs.toList.map (fun f=>(f.type,f.offset))=[(9,0),(41,1),(25,2)]:=⟨_,Tryz.underlying43,by kernel_rfl⟩
def uflds_27:∃fs,Tryz.prog.underlying 27=some (.struct fs)∧fs.toList.map (fun f=>(f.type,f.offset))=[(9,0),(9,1),(23,2),(25,3)]:=⟨_,Tryz.underlying27,by kernel_rfl⟩
section
variable {H:Type} {enc:TypeId×Value→H} {w:World} {N:Nat}
def Val.okU(N:Nat)(x:Val):Prop:=(Lit.int .u8 x.k).wf=true∧(Lit.int .i64 x.n).wf=true∧uStrOK N x.s
theorem udec_49:uDec enc Tryz.prog w N 49 Val.c (Val.okU N):=by
 intro cs h;obtain⟨hl,hf⟩:=urd_fields uflds_49 h;have h0:uRd enc Tryz.prog w N 5 ((cs.drop 0).take 1):=by have:=hf (5,0) (by simp);simp only[ucells_5] at this;exact this
 obtain⟨a0,c0,k0⟩:=udec_int (k:=.u8) Tryz.underlying5 _ h0;have h1:uRd enc Tryz.prog w N 2 ((cs.drop 1).take 1):=by have:=hf (2,1) (by simp);simp only[ucells_2] at this;exact this
 obtain⟨a1,c1,k1⟩:=udec_int (k:=.i64) Tryz.underlying2 _ h1;have h2:uRd enc Tryz.prog w N 9 ((cs.drop 2).take 1):=by have:=hf (9,2) (by simp);simp only[ucells_9] at this;exact this
 obtain⟨a2,c2,k2⟩:=udec_str Tryz.underlying9 _ h2;rw[ucells_49] at hl;refine⟨⟨a0,a1,a2⟩,?_,⟨k0,k1,k2⟩⟩;exact ct_step c0 (ct_step c1 (ct_step c2 (ct_end hl)))
def Slot.okU(N:Nat)(x:Slot):Prop:=uStrOK N x.name∧(Lit.int .u8 x.kind).wf=true
theorem udec_54:uDec enc Tryz.prog w N 54 Slot.c (Slot.okU N):=by
 intro cs h;obtain⟨hl,hf⟩:=urd_fields uflds_54 h;have h0:uRd enc Tryz.prog w N 9 ((cs.drop 0).take 1):=by have:=hf (9,0) (by simp);simp only[ucells_9] at this;exact this
 obtain⟨a0,c0,k0⟩:=udec_str Tryz.underlying9 _ h0;have h1:uRd enc Tryz.prog w N 5 ((cs.drop 1).take 1):=by have:=hf (5,1) (by simp);simp only[ucells_5] at this;exact this
 obtain⟨a1,c1,k1⟩:=udec_int (k:=.u8) Tryz.underlying5 _ h1;rw[ucells_54] at hl;refine⟨⟨a0,a1⟩,?_,⟨k0,k1⟩⟩;exact ct_step c0 (ct_step c1 (ct_end hl))
theorem udec_45:uDec enc Tryz.prog w N 45 (fun x:Sl Slot=>[x.t Slot.c]) (uSlOK N (Slot.okU N)):=udec_slice Tryz.underlying45 ucells_54 (by decide) (fun _=>rfl) udec_54
def Tpl.okU(N:Nat)(x:Tpl):Prop:=uStrOK N x.name∧uSlOK N (Slot.okU N) x.slots
theorem udec_47:uDec enc Tryz.prog w N 47 Tpl.c (Tpl.okU N):=by
 intro cs h;obtain⟨hl,hf⟩:=urd_fields uflds_47 h;have h0:uRd enc Tryz.prog w N 9 ((cs.drop 0).take 1):=by have:=hf (9,0) (by simp);simp only[ucells_9] at this;exact this
 obtain⟨a0,c0,k0⟩:=udec_str Tryz.underlying9 _ h0;have h1:uRd enc Tryz.prog w N 45 ((cs.drop 1).take 1):=by have:=hf (45,1) (by simp);simp only[ucells_45] at this;exact this
 obtain⟨a1,c1,k1⟩:=udec_45 _ h1;rw[ucells_47] at hl;refine⟨⟨a0,a1⟩,?_,⟨k0,k1⟩⟩;exact ct_step c0 (ct_step c1 (ct_end hl))
theorem udec_28:uDec enc Tryz.prog w N 28 (fun x:Sl Val=>[x.t Val.c]) (uSlOK N (Val.okU N)):=udec_slice Tryz.underlying28 ucells_49 (by decide) (fun _=>rfl) udec_49
def Fact.okU(N:Nat)(x:Fact):Prop:=(Lit.int .i64 x.id).wf=true∧(Lit.int .i64 x.tp).wf=true∧uSlOK N (Val.okU N) x.s
theorem udec_30:uDec enc Tryz.prog w N 30 Fact.c (Fact.okU N):=by
 intro cs h;obtain⟨hl,hf⟩:=urd_fields uflds_30 h;have h0:uRd enc Tryz.prog w N 3 ((cs.drop 0).take 1):=by have:=hf (3,0) (by simp);simp only[ucells_3] at this;exact this
 obtain⟨a0,c0,k0⟩:=udec_int (k:=.i64) Tryz.underlying3 _ h0;have h1:uRd enc Tryz.prog w N 3 ((cs.drop 1).take 1):=by have:=hf (3,1) (by simp);simp only[ucells_3] at this;exact this
 obtain⟨a1,c1,k1⟩:=udec_int (k:=.i64) Tryz.underlying3 _ h1;have h2:uRd enc Tryz.prog w N 28 ((cs.drop 2).take 1):=by have:=hf (28,2) (by simp);simp only[ucells_28] at this;exact this
 obtain⟨a2,c2,k2⟩:=udec_28 _ h2;rw[ucells_30] at hl;refine⟨⟨a0,a1,a2⟩,?_,⟨k0,k1,k2⟩⟩;exact ct_step c0 (ct_step c1 (ct_step c2 (ct_end hl)))
def Bind.okU(N:Nat)(x:Bind):Prop:=uStrOK N x.name∧Val.okU N x.v
theorem udec_51:uDec enc Tryz.prog w N 51 Bind.c (Bind.okU N):=by
 intro cs h;obtain⟨hl,hf⟩:=urd_fields uflds_51 h;have h0:uRd enc Tryz.prog w N 9 ((cs.drop 0).take 1):=by have:=hf (9,0) (by simp);simp only[ucells_9] at this;exact this
 obtain⟨a0,c0,k0⟩:=udec_str Tryz.underlying9 _ h0;have h1:uRd enc Tryz.prog w N 49 ((cs.drop 1).take 3):=by have:=hf (49,1) (by simp);simp only[ucells_49] at this;exact this
 obtain⟨a1,c1,k1⟩:=udec_49 _ h1;rw[ucells_51] at hl;refine⟨⟨a0,a1⟩,?_,⟨k0,k1⟩⟩;exact ct_step c0 (ct_step c1 (ct_end hl))
theorem udec_25:uDec enc Tryz.prog w N 25 uplaceC uplaceOK:=by
 intro cs h;obtain⟨hl,hf⟩:=urd_fields uflds_25 h;have h0:uRd enc Tryz.prog w N 3 ((cs.drop 0).take 1):=by have:=hf (3,0) (by simp);simp only[ucells_3] at this;exact this
 obtain⟨a0,c0,k0⟩:=udec_int (k:=.i64) Tryz.underlying3 _ h0;have h1:uRd enc Tryz.prog w N 3 ((cs.drop 1).take 1):=by have:=hf (3,1) (by simp);simp only[ucells_3] at this;exact this
 obtain⟨a1,c1,k1⟩:=udec_int (k:=.i64) Tryz.underlying3 _ h1;rw[ucells_25] at hl;refine⟨(a0,a1),?_,⟨k0,k1⟩⟩;exact ct_step c0 (ct_step c1 (ct_end hl))
theorem udec_70:uDec enc Tryz.prog w N 70 (fun x:Sl Int=>[x.t intC]) (uSlOK N uintOK):=udec_slice Tryz.underlying70 ucells_3 (by decide) (fun _=>rfl) (udec_int Tryz.underlying3)
def Node.okU(N:Nat)(x:Node):Prop:=(Lit.int .u8 x.op).wf=true∧Val.okU N x.v∧uStrOK N x.name∧uSlOK N uintOK x.kids∧uplaceOK (x.line,x.col)
theorem udec_74:uDec enc Tryz.prog w N 74 Node.c (Node.okU N):=by
 intro cs h;obtain⟨hl,hf⟩:=urd_fields uflds_74 h;have h0:uRd enc Tryz.prog w N 5 ((cs.drop 0).take 1):=by have:=hf (5,0) (by simp);simp only[ucells_5] at this;exact this
 obtain⟨a0,c0,k0⟩:=udec_int (k:=.u8) Tryz.underlying5 _ h0;have h1:uRd enc Tryz.prog w N 49 ((cs.drop 1).take 3):=by have:=hf (49,1) (by simp);simp only[ucells_49] at this;exact this
 obtain⟨a1,c1,k1⟩:=udec_49 _ h1;have h2:uRd enc Tryz.prog w N 9 ((cs.drop 4).take 1):=by have:=hf (9,4) (by simp);simp only[ucells_9] at this;exact this
 obtain⟨a2,c2,k2⟩:=udec_str Tryz.underlying9 _ h2;have h3:uRd enc Tryz.prog w N 70 ((cs.drop 5).take 1):=by have:=hf (70,5) (by simp);simp only[ucells_70] at this;exact this
 obtain⟨a3,c3,k3⟩:=udec_70 _ h3;have h4:uRd enc Tryz.prog w N 25 ((cs.drop 6).take 2):=by have:=hf (25,6) (by simp);simp only[ucells_25] at this;exact this
 obtain⟨a4,c4,k4⟩:=udec_25 _ h4;rw[ucells_74] at hl;refine⟨⟨a0,a1,a2,a3,a4.1,a4.2⟩,?_,⟨k0,k1,k2,k3,k4⟩⟩;exact ct_step c0 (ct_step c1 (ct_step c2 (ct_step c3 (ct_step c4 (ct_end hl)))))
theorem udec_69:uDec enc Tryz.prog w N 69 (fun x:Sl Node=>[x.t Node.c]) (uSlOK N (Node.okU N)):=udec_slice Tryz.underlying69 ucells_74 (by decide) (fun _=>rfl) udec_74
def Test.okU(N:Nat)(x:Test):Prop:=(Lit.int .u8 x.op).wf=true∧uSlOK N (Node.okU N) x.a∧uSlOK N (Node.okU N) x.b∧uSlOK N uintOK x.kids∧uplaceOK (x.line,x.col)
theorem udec_72:uDec enc Tryz.prog w N 72 Test.c (Test.okU N):=by
 intro cs h;obtain⟨hl,hf⟩:=urd_fields uflds_72 h;have h0:uRd enc Tryz.prog w N 5 ((cs.drop 0).take 1):=by have:=hf (5,0) (by simp);simp only[ucells_5] at this;exact this
 obtain⟨a0,c0,k0⟩:=udec_int (k:=.u8) Tryz.underlying5 _ h0;have h1:uRd enc Tryz.prog w N 69 ((cs.drop 1).take 1):=by have:=hf (69,1) (by simp);simp only[ucells_69] at this;exact this
 obtain⟨a1,c1,k1⟩:=udec_69 _ h1;have h2:uRd enc Tryz.prog w N 69 ((cs.drop 2).take 1):=by have:=hf (69,2) (by simp);simp only[ucells_69] at this;exact this
 obtain⟨a2,c2,k2⟩:=udec_69 _ h2;have h3:uRd enc Tryz.prog w N 4 ((cs.drop 3).take 1):=by have:=hf (4,3) (by simp);simp only[ucells_4] at this;exact this
 obtain⟨a3,c3,k3⟩:=udec_bool Tryz.underlying4 _ h3;have h4:uRd enc Tryz.prog w N 4 ((cs.drop 4).take 1):=by have:=hf (4,4) (by simp);simp only[ucells_4] at this;exact this
 obtain⟨a4,c4,k4⟩:=udec_bool Tryz.underlying4 _ h4;have h5:uRd enc Tryz.prog w N 70 ((cs.drop 5).take 1):=by have:=hf (70,5) (by simp);simp only[ucells_70] at this;exact this
 obtain⟨a5,c5,k5⟩:=udec_70 _ h5;have h6:uRd enc Tryz.prog w N 25 ((cs.drop 6).take 2):=by have:=hf (25,6) (by simp);simp only[ucells_25] at this;exact this
 obtain⟨a6,c6,k6⟩:=udec_25 _ h6;rw[ucells_72] at hl;refine⟨⟨a0,a1,a2,a3,a4,a5,a6.1,a6.2⟩,?_,⟨k0,k1,k2,k5,k6⟩⟩;exact ct_step c0 (ct_step c1 (ct_step c2 (ct_step c3 (ct_step c4 (ct_step c5 (ct_step c6 (ct_end hl)))))))
theorem udec_41:uDec enc Tryz.prog w N 41 (fun x:Sl Test=>[x.t Test.c]) (uSlOK N (Test.okU N)):=udec_slice Tryz.underlying41 ucells_72 (by decide) (fun _=>rfl) udec_72
def STest.okU(N:Nat)(x:STest):Prop:=uStrOK N x.slot∧uSlOK N (Test.okU N) x.test∧uplaceOK (x.line,x.col)
theorem udec_43:uDec enc Tryz.prog w N 43 STest.c (STest.okU N):=by
 intro cs h;obtain⟨hl,hf⟩:=urd_fields uflds_43 h;have h0:uRd enc Tryz.prog w N 9 ((cs.drop 0).take 1):=by have:=hf (9,0) (by simp);simp only[ucells_9] at this;exact this
 obtain⟨a0,c0,k0⟩:=udec_str Tryz.underlying9 _ h0;have h1:uRd enc Tryz.prog w N 41 ((cs.drop 1).take 1):=by have:=hf (41,1) (by simp);simp only[ucells_41] at this;exact this
 obtain⟨a1,c1,k1⟩:=udec_41 _ h1;have h2:uRd enc Tryz.prog w N 25 ((cs.drop 2).take 2):=by have:=hf (25,2) (by simp);simp only[ucells_25] at this;exact this
 obtain⟨a2,c2,k2⟩:=udec_25 _ h2;rw[ucells_43] at hl;refine⟨⟨a0,a1,a2.1,a2.2⟩,?_,⟨k0,k1,k2⟩⟩;exact ct_step c0 (ct_step c1 (ct_step c2 (ct_end hl)))
theorem udec_23:uDec enc Tryz.prog w N 23 (fun x:Sl STest=>[x.t STest.c]) (uSlOK N (STest.okU N)):=udec_slice Tryz.underlying23 ucells_43 (by decide) (fun _=>rfl) udec_43
def Pat.okU(N:Nat)(x:Pat):Prop:=uStrOK N x.name∧uStrOK N x.t∧uSlOK N (STest.okU N) x.slots∧uplaceOK (x.line,x.col)
theorem udec_27:uDec enc Tryz.prog w N 27 Pat.c (Pat.okU N):=by
 intro cs h;obtain⟨hl,hf⟩:=urd_fields uflds_27 h;have h0:uRd enc Tryz.prog w N 9 ((cs.drop 0).take 1):=by have:=hf (9,0) (by simp);simp only[ucells_9] at this;exact this
 obtain⟨a0,c0,k0⟩:=udec_str Tryz.underlying9 _ h0;have h1:uRd enc Tryz.prog w N 9 ((cs.drop 1).take 1):=by have:=hf (9,1) (by simp);simp only[ucells_9] at this;exact this
 obtain⟨a1,c1,k1⟩:=udec_str Tryz.underlying9 _ h1;have h2:uRd enc Tryz.prog w N 23 ((cs.drop 2).take 1):=by have:=hf (23,2) (by simp);simp only[ucells_23] at this;exact this
 obtain⟨a2,c2,k2⟩:=udec_23 _ h2;have h3:uRd enc Tryz.prog w N 25 ((cs.drop 3).take 2):=by have:=hf (25,3) (by simp);simp only[ucells_25] at this;exact this
 obtain⟨a3,c3,k3⟩:=udec_25 _ h3;rw[ucells_27] at hl;refine⟨⟨a0,a1,a2,a3.1,a3.2⟩,?_,⟨k0,k1,k2,k3⟩⟩;exact ct_step c0 (ct_step c1 (ct_step c2 (ct_step c3 (ct_end hl))))
theorem udec_22:uDec enc Tryz.prog w N 22 (fun x:Sl Tpl=>[x.t Tpl.c]) (uSlOK N (Tpl.okU N)):=udec_slice Tryz.underlying22 ucells_47 (by decide) (fun _=>rfl) udec_47
theorem udec_31:uDec enc Tryz.prog w N 31 (fun x:Sl Bind=>[x.t Bind.c]) (uSlOK N (Bind.okU N)):=udec_slice Tryz.underlying31 ucells_51 (by decide) (fun _=>rfl) udec_51
end
end Go.Ab
