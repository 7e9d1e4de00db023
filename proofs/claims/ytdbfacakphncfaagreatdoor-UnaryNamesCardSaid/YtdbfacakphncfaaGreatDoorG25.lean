/- Lemmas. -/
import Derived.Shelf.Strings.OnBuilder
import Derived.Shelf.Strings.Trim
import Derived.Shelf.Small.Bits
import Derived.Shelf.Strings.BuilderK
import Derived.Shelf.Utf8.RuneCount
import Derived.Shelf.Strconv.Itoa4
import Derived.Shelf.Strconv.ErrVarParseInt
import Derived.Shelf.Strings.Shaped
import Derived.Shelf.Strings.SplitShaped
import Derived.Shelf.Unicode.Decode
import Derived.Shelf.Strings.Runes
import Derived.Shelf.Strings.RuneCount
import Derived.Shelf.Strings.AsciiSet
import Derived.Shelf.Bits.Mul64
import Derived.Shelf.Unicode.DecodeLast
import Derived.WalkKit
import Derived.BigCall
import Derived.Test.YtdbfacakphncfaaGreatDoorG03
import Derived.ChangeAgain
set_option maxRecDepth 1000000
set_option maxHeartbeats 40000000
set_option linter.all false
namespace Go.Proofs
open Go.Shelf
def Tryz.lays169_ren:Go.Shelf.Ren:=⟨fun|169=>93|n=>n,fun|70=>152|9=>9|0=>0|72=>154|37=>95|127=>200|3=>3|5=>5|n=>n,fun|n=>n⟩
theorem Tryz.lays169:Go.Proofs.Lays.n169 Tryz.prog Tryz.lays169_ren:=by repeat' first|kernel_rfl|exact fun _=>rfl|decide|constructor
theorem Tryz.Builder_Extra_169:Builder.Extra Tryz.prog Tryz.lays169_ren:=by repeat' first|kernel_rfl|exact fun _=>rfl|decide|constructor
def Tryz.lays156_ren:Go.Shelf.Ren:=⟨fun|156=>46|165=>91|166=>92|169=>93|240=>149|241=>150|276=>187|277=>188|n=>n,fun|31=>50|9=>9|3=>3|4=>4|0=>0|20=>20|72=>154|76=>158|70=>152|37=>95|75=>157|127=>200|164=>228|5=>5|80=>123|n=>n,fun|n=>n⟩
theorem Tryz.lays156:Go.Proofs.Lays.n156 Tryz.prog Tryz.lays156_ren:=by repeat' first|kernel_rfl|exact fun _=>rfl|decide|constructor
theorem Tryz.Builder_Extra_156:Builder.Extra Tryz.prog Tryz.lays156_ren:=by repeat' first|kernel_rfl|exact fun _=>rfl|decide|constructor
open Go.RowKit in
theorem Tryz.strings_Join_none (a:Option Addr) (c:Nat) (sep:ByteArray) (w:World) :
  Calls Tryz.prog 46 #[.slice a 0 c,.string sep] w fun e w'=>e=.returned (.string ⟨#[]⟩)∧w'=w:=Any.strings_Join_none Tryz.lays156 Tryz.Builder_Extra_156 a c sep w
open Go.RowKit in
theorem Tryz.strings_Join (bk o c:Nat) (xs:List ByteArray) (sep:ByteArray) (w:World) (hcells:∀(j:Nat) x,xs[j]?=some x→w.cell? ⟨bk,o+j,none⟩=some (.string x)) (hbk:bk<w.heap.size) (hN:xs.length≤140737488355328) (hcap:xs.length≤c) (hlen:(Lib.join (xs.map (·.data.toList)) sep.data.toList).length≤140737488355328) :
  Calls Tryz.prog 46 #[.slice (some ⟨bk,o,none⟩) xs.length c,.string sep] w fun e w'=>e=.returned (.string ⟨(Lib.join (xs.map (·.data.toList)) sep.data.toList).toArray⟩)∧Below w.heap.size w w':=Any.strings_Join Tryz.lays156 Tryz.Builder_Extra_156 bk o c xs sep w hcells hbk hN hcap hlen
def Tryz.lays162_ren:Go.Shelf.Ren:=⟨fun|162=>239|232=>273|227=>274|234=>275|236=>276|228=>296|271=>297|151=>298|120=>304|197=>300|152=>305|260=>308|137=>108|119=>309|224=>248|225=>247|217=>162|266=>206|n=>n,fun|9=>9|4=>4|3=>3|5=>5|117=>301|116=>300|0=>0|124=>304|21=>21|105=>323|46=>270|119=>334|139=>337|138=>336|n=>n,fun|3=>8|4=>9|n=>n⟩
theorem Tryz.lays162:Go.Proofs.Lays.n162 Tryz.prog Tryz.lays162_ren:=by repeat' first|kernel_rfl|exact fun _=>rfl|decide|constructor
open Go.RowKit in
theorem Tryz.strings_TrimRight_one (s:ByteArray) (c:UInt8) (hc:c.toNat<128) (w:World) (hs:s.size≤9223372036854775807) :
  Calls Tryz.prog 239 #[.string s,.string ⟨#[c]⟩] w fun e w'=>e=.returned (.string ⟨(Lib.trimRightB s.data.toList c).toArray⟩)∧w'=w:=Any.strings_TrimRight_one Tryz.lays162 s c hc w hs
def Tryz.lays137_ren:Go.Shelf.Ren:=⟨fun|137=>108|217=>162|266=>206|n=>n,fun|9=>9|5=>5|3=>3|n=>n,fun|n=>n⟩
theorem Tryz.lays137:Go.Proofs.Lays.n137 Tryz.prog Tryz.lays137_ren:=by repeat' first|kernel_rfl|exact fun _=>rfl|decide|constructor
open Go.RowKit in
theorem Tryz.strings_IndexByte (s:ByteArray) (c:Int) (w:World) :
  Calls Tryz.prog 108 #[.string s,.int .u8 c] w fun e w'=>e=.returned (.int .i64 (Lib.indexByte s.data.toList c.toNat.toUInt8))∧w'=w:=Any.strings_IndexByte Tryz.lays137 s c w
open Go.RowKit in
theorem Tryz.Builder_String_any_k (B b:Nat) (l:List UInt8) (w:World) (h:Lib.IsBuilderF 154 5 B b (Lib.byteCells l) w) (hBw:B≤w.heap.size) :
  Calls Tryz.prog 93 #[.pointer (some ⟨b,0,none⟩)] w fun e w'=>e=.returned (.string ⟨l.toArray⟩)∧(Lib.IsBuilderF 154 5 B b (Lib.byteCells l) w'∧Below B w w'∧Lib.OthersKept 5 (some b) w w'):=Any.Builder_String_any_k Tryz.lays169 Tryz.Builder_Extra_169 B b l w h hBw
def Tryz.laysM173_ren:Go.Shelf.Ren:=⟨fun|173=>202|246=>238|283=>269|284=>270|285=>271|286=>272|129=>292|317=>291|318=>293|319=>294|320=>295|337=>302|338=>303|n=>n,fun|2=>2|3=>3|9=>9|4=>4|171=>293|0=>0|53=>244|37=>95|5=>5|173=>296|212=>320|51=>306|20=>20|213=>321|46=>270|232=>332|233=>333|n=>n,fun|17=>5|18=>6|19=>7|n=>n⟩
theorem Tryz.laysM173:Go.Proofs.LaysM.n173 Tryz.prog Tryz.laysM173_ren:=by repeat' first|kernel_rfl|exact fun _=>rfl|decide|constructor
open Go.RowKit Go.Sort Go.Lib in
theorem Tryz.strconv_FormatInt_10 (n : Int) (h0 : -9223372036854775808 ≤ n) (h1 : n ≤ 9223372036854775807) (w : World) (htab : Lib.TabIs Tryz.prog w "internal/strconv.uint64pow10" .u64 Lib.pow10Tab) :
  Calls Tryz.prog 202 #[.int .i64 n,.int .i64 10] w fun e w'=>e=.returned (.string ⟨(Lib.itoa n).toArray⟩)∧∃k os,w'=grow (w.drewN k) os:=Any.strconv_FormatInt_10 Tryz.laysM173 n h0 h1 w htab
def Tryz.laysC174_ren:Go.Shelf.Ren:=⟨fun|174=>201|247=>236|245=>237|287=>264|279=>265|280=>266|281=>267|282=>268|321=>286|322=>287|316=>288|171=>290|205=>289|243=>301|246=>238|283=>269|284=>270|285=>271|286=>272|129=>292|317=>291|318=>293|319=>294|320=>295|337=>302|338=>303|n=>n,fun|9=>9|3=>3|2=>2|75=>157|85=>239|4=>4|167=>287|5=>5|53=>244|175=>288|46=>270|168=>290|37=>95|0=>0|210=>317|21=>21|127=>200|145=>328|143=>326|171=>293|173=>296|212=>320|51=>306|20=>20|213=>321|232=>332|233=>333|80=>123|n=>n,fun|15=>3|16=>4|17=>5|18=>6|19=>7|n=>n⟩
theorem Tryz.laysC174:Go.Proofs.LaysC.n174 Tryz.prog Tryz.laysC174_ren:=by repeat' first|kernel_rfl|exact fun _=>rfl|decide|constructor
open Go.RowKit in
theorem Tryz.strconv_ParseInt_10_at64_ok (s:ByteArray) (hmax:s.size≤9223372036854775806) (v:Int) (h:Lib.parseIntB 64 s.data.toList=.ok v) (w:World) :
  Calls Tryz.prog 201 #[.string s,.int .i64 10,.int .i64 64] w fun e w'=>e=.returned (.tuple #[.int .i64 v,.nilIface])∧(w'=w∨∃t,w'=Lib.bytesWorld w 5 t):=Any.strconv_ParseInt_10_at64_ok Tryz.laysC174 s hmax v h w
open Go.RowKit in
theorem Tryz.strconv_ParseInt_10_at64_syntax_var (s : ByteArray) (hlim : s.size ≤ 281474976710656) (h : Lib.parseIntB 64 s.data.toList = Lib.NumEnd.syntax) (tp : TypeId) (p : Value) (w : World) (hvar : w.var? Tryz.prog "strconv.ErrSyntax" = some #[.iface tp p]) :
  Calls Tryz.prog 201 #[.string s,.int .i64 10,.int .i64 64] w fun e w'=>∃N,e=.returned (.tuple #[.int .i64 (0),.iface 290 (.pointer (some ⟨N,0,none⟩))])∧w.heap.size≤N∧w'.heap[N]?=some (.cells #[.string ⟨#[80,97,114,115,101,73,110,116]⟩,.string s,.iface tp p] 317 (0,0))∧Below w.heap.size w w':=Any.strconv_ParseInt_10_at64_syntax_var Tryz.laysC174 s hlim h tp p w hvar
open Go.RowKit in
theorem Tryz.strconv_ParseInt_10_at64_range_var (s : ByteArray) (hlim : s.size ≤ 281474976710656) (h : Lib.parseIntB 64 s.data.toList = .range) (tp : TypeId) (p : Value) (w : World) (hvar : w.var? Tryz.prog "strconv.ErrRange" = some #[.iface tp p]) :
  Calls Tryz.prog 201 #[.string s,.int .i64 10,.int .i64 64] w fun e w'=>∃N,e=.returned (.tuple #[.int .i64 (Lib.intSat 64 s.data.toList),.iface 290 (.pointer (some ⟨N,0,none⟩))])∧w.heap.size≤N∧w'.heap[N]?=some (.cells #[.string ⟨#[80,97,114,115,101,73,110,116]⟩,.string s,.iface tp p] 317 (0,0))∧Below w.heap.size w w':=Any.strconv_ParseInt_10_at64_range_var Tryz.laysC174 s hlim h tp p w hvar
def Tryz.laysM144_ren:Go.Shelf.Ren:=⟨fun|144=>126|143=>172|219=>214|217=>162|225=>247|224=>248|267=>249|266=>206|314=>280|n=>n,fun|9=>9|4=>4|3=>3|5=>5|46=>270|146=>307|51=>306|n=>n,fun|1=>0|n=>n⟩
theorem Tryz.laysM144:Go.Proofs.LaysM.n144 Tryz.prog Tryz.laysM144_ren:=by repeat' first|kernel_rfl|exact fun _=>rfl|decide|exact fun w h=>Go.Proofs.cell_of_shapedOpen_int (zero:=#[.int .i64 0]) (t:=3) h (of_decide_eq_true (by kernel_rfl)) (by kernel_rfl) rfl (by kernel_rfl) (by kernel_rfl) Tryz.underlying3|constructor
open Go.RowKit in
theorem Tryz.strings_Contains_shaped (s sub:ByteArray) (w:World) (h:w.ShapedOpen Tryz.prog) (hs:s.size<4294967281) :
  Calls Tryz.prog 126 #[.string s,.string sub] w fun e w'=>e=.returned (.bool (Lib.contains s.data.toList sub.data.toList))∧w'=w:=Any.strings_Contains_shaped Tryz.laysM144 s sub w h hs
def Tryz.laysM145_ren:Go.Shelf.Ren:=⟨fun|145=>198|220=>232|219=>214|217=>162|225=>247|224=>248|267=>249|266=>206|314=>280|n=>n,fun|9=>9|4=>4|59=>236|3=>3|5=>5|46=>270|146=>307|51=>306|n=>n,fun|1=>0|n=>n⟩
theorem Tryz.laysM145:Go.Proofs.LaysM.n145 Tryz.prog Tryz.laysM145_ren:=by repeat' first|kernel_rfl|exact fun _=>rfl|decide|exact fun w h=>Go.Proofs.cell_of_shapedOpen_int (zero:=#[.int .i64 0]) (t:=3) h (of_decide_eq_true (by kernel_rfl)) (by kernel_rfl) rfl (by kernel_rfl) (by kernel_rfl) Tryz.underlying3|constructor
open Go.RowKit in
theorem Tryz.strings_Cut_shaped (s sep:ByteArray) (w:World) (h:w.ShapedOpen Tryz.prog) (hs:s.size<4294967281) :
  Calls Tryz.prog 198 #[.string s,.string sep] w fun e w'=>e=.returned (.tuple #[.string ⟨(Lib.cut s.data.toList sep.data.toList).1.toArray⟩,.string ⟨(Lib.cut s.data.toList sep.data.toList).2.1.toArray⟩,.bool (Lib.cut s.data.toList sep.data.toList).2.2])∧∃n,w'=w.drewN n:=Any.strings_Cut_shaped Tryz.laysM145 s sep w h hs
def Tryz.laysM155_ren:Go.Shelf.Ren:=⟨fun|155=>240|154=>277|138=>299|165=>91|143=>172|166=>92|197=>300|169=>93|195=>306|218=>307|240=>149|241=>150|219=>214|260=>308|276=>187|277=>188|217=>162|225=>247|224=>248|267=>249|266=>206|314=>280|n=>n,fun|9=>9|3=>3|4=>4|72=>154|0=>0|76=>158|105=>323|21=>21|5=>5|70=>152|20=>20|37=>95|75=>157|127=>200|164=>228|46=>270|119=>334|139=>337|138=>336|146=>307|51=>306|80=>123|n=>n,fun|1=>0|3=>8|4=>9|n=>n⟩
theorem Tryz.laysM155:Go.Proofs.LaysM.n155 Tryz.prog Tryz.laysM155_ren:=by repeat' first|kernel_rfl|exact fun _=>rfl|decide|exact fun w h=>Go.Proofs.cell_of_shapedOpen_int (zero:=#[.int .i64 0]) (t:=3) h (of_decide_eq_true (by kernel_rfl)) (by kernel_rfl) rfl (by kernel_rfl) (by kernel_rfl) Tryz.underlying3|constructor
theorem Tryz.Builder_Extra_M155:Builder.Extra Tryz.prog Tryz.laysM155_ren:=by repeat' first|kernel_rfl|exact fun _=>rfl|decide|constructor
open Go.RowKit in
theorem Tryz.strings_ReplaceAll_shaped (s old new:ByteArray) (w:World) (h:w.ShapedOpen Tryz.prog) (hs:s.size<4294967281) (h1:1≤old.size) (hlen:s.size+Lib.countB s old * new.size≤140737488355328) :
  Calls Tryz.prog 240 #[.string s,.string old,.string new] w fun e w' =>
   e=.returned (.string ⟨(Lib.replaceAll s.data.toList old.data.toList new.data.toList).toArray⟩)∧Below w.heap.size w w':=Any.strings_ReplaceAll_shaped Tryz.laysM155 Tryz.Builder_Extra_M155 s old new w h hs h1 hlen
def Tryz.lays167_ren:Go.Shelf.Ren:=⟨fun|167=>231|240=>149|276=>187|n=>n,fun|0=>0|4=>4|5=>5|9=>9|20=>20|37=>95|70=>152|72=>154|75=>157|80=>123|164=>228|n=>n,fun|n=>n⟩
theorem Tryz.lays167:Go.Proofs.Lays.n167 Tryz.prog Tryz.lays167_ren:=by repeat' first|kernel_rfl|exact fun _=>rfl|decide|constructor
theorem Tryz.Builder_Extra_167:Builder.Extra Tryz.prog Tryz.lays167_ren:=by repeat' first|kernel_rfl|exact fun _=>rfl|decide|constructor
open Go.RowKit in
theorem Tryz.Builder_WriteByte_k (B b:Nat) (bs:List Value) (c:Int) (w:World) (h:Lib.IsBuilderF 154 5 B b bs w) (hlen:bs.length+1≤140737488355328) (hBw:B≤w.heap.size) :
  Calls Tryz.prog 231 #[.pointer (some ⟨b,0,none⟩),.int .u8 c] w fun e w'=>e=.returned .nilIface∧(Lib.BuilderAtF 154 5 B b (.pointer (some ⟨b,0,none⟩)) (bs++[.int .u8 c]) w'∧Below B w w'∧Lib.OthersKept 5 (some b) w w'):=Any.Builder_WriteByte_k Tryz.lays167 Tryz.Builder_Extra_167 B b bs c w h hlen hBw
end Go.Proofs
namespace Go.Proofs
open Go.RowKit
def unq8:List UInt8→List UInt8
 |[]=>[]
 |[_]=>[]
 |c::d::r=>if c=92 then d::unq8 r else c::unq8 (d::r)
def drop1(s:ByteArray)(k:Nat)(h:k<s.size):s.data.toList.drop k=s[k]::s.data.toList.drop (k+1):=by
 rw[List.drop_eq_getElem_cons (by exact h)];rfl
def drop2(s:ByteArray)(k:Nat)(h:k+1<s.size):s.data.toList.drop k=s[k]::s[k+1]::s.data.toList.drop (k+2):=by
 rw[drop1 s k (by omega),drop1 s (k+1) h]
def yFj{c:UInt8}(h:((c.toNat:Int)==92)=true):c=92:=by
 have:c.toNat=92:=by have h':=beq_iff_eq.1 h;omega
 exact UInt8.toNat_inj.1 this
def zYO{c:UInt8}(h:((c.toNat:Int)==92)=false):c≠92:=by
 rintro rfl;simp at h
set_option maxHeartbeats 4000000 in
set_option maxRecDepth 1000000 in
theorem Tryz.text_walk (s:ByteArray) (w:World) (hs:s.size≤4294967296) :
  Calls Tryz.prog 196 #[.string s] w fun e w'=>e=.returned (.tuple #[.agg #[.int .u8 3,.int .i64 0,.string ⟨(unq8 (s.data.toList.drop 1)).toArray⟩],.int .i64 0])∧Below w.heap.size w w':=by
 go_enter Tryz.func196,Tryz.ntmps196
 go_wp2
 go_loopw [5] (fun v wr=>∃(k:Nat) (acc:List UInt8),v=.int .i64 (k:Int)∧1≤k∧(k≤s.size∨k=1)∧Lib.IsBuilderF 154 5 (w.heap.size+1) (w.heap.size+1) (Lib.byteCells acc) wr∧Below (w.heap.size+1) (w.alloc (.cells #[.int .u8 0,.int .i64 0,.string ⟨#[]⟩] 23)) wr∧acc++unq8 (s.data.toList.drop k)=unq8 (s.data.toList.drop 1)∧acc.length≤k) (fun v _=>s.size - (RowKit.intOf v).toNat)
 case atStart =>
  refine⟨1,[],rfl,Nat.le_refl _,.inr rfl,?_,((Below.refl _ _).alloc (by simp) _),rfl,by simp⟩;have:=Lib.IsBuilderF.of (Lib.fresh_isBuilder 154 5 (w.alloc (.cells #[.int .u8 0,.int .i64 0,.string ⟨#[]⟩] 23)));have e:(w.alloc (.cells #[.int .u8 0,.int .i64 0,.string ⟨#[]⟩] 23)).heap.size=w.heap.size+1:=by simp
  rw[e] at this;exact this
 case round =>
  obtain⟨k,acc,rfl,hk1,hk2,hI,hbw,hacc,hal⟩:=hrel;have hw1:IntKind.i64.wrap ((s.size:Int) - 1)=(s.size:Int) - 1:=by rw[Go.Ab.wrap64]<;>omega
  have hsz:w.heap.size+1≤wr.heap.size:=by have:=hbw.size;simp at this;omega
  by_cases hp:(k:Int)<(s.size:Int) - 1
  ·go_wp2_with (go_at_call 231;refine(Tryz.Builder_WriteByte_k (w.heap.size+1) (w.heap.size+1) _ _ _ hI (by rw[Lib.byteCells_length];omega) hsz).mono ?_)
   ·rintro e W1 ⟨rfl,h1,b1,k1⟩;have hd:s.data.toList.drop k=s[k]::s[k+1]::s.data.toList.drop (k+2):=drop2 s k (by omega);have h92:s[k]=92:=yFj (by assumption)
    go_wp2
    go_roundw
    case rel =>
     refine⟨k+2,acc++[s[k+1]],by go_num,by omega,.inl (by omega),?_,hbw.trans b1,?_,by simp;omega⟩
     ·rw[Lib.byteCells_append];exact Or.inr h1
     rw[← hacc,hd,h92];simp [unq8]
    case measure =>
     simp only[intOf];omega
   rintro e W1 ⟨rfl,h1,b1,k1⟩;have hd:s.data.toList.drop k=s[k]::s[k+1]::s.data.toList.drop (k+2):=drop2 s k (by omega);have hd1:s.data.toList.drop (k+1)=s[k+1]::s.data.toList.drop (k+2):=drop1 s (k+1) (by omega);have h92:s[k]≠92:=zYO (by assumption)
   go_wp2
   go_roundw
   case rel =>
    refine⟨k+1,acc++[s[k]],by go_num,by omega,.inl (by omega),?_,hbw.trans b1,?_,by simp;omega⟩
    ·rw[Lib.byteCells_append];exact Or.inr h1
    rw[← hacc,hd,hd1];simp [unq8,h92]
   case measure =>
    simp only[intOf];omega
  go_wp2_with (go_at_call 93;refine(Tryz.Builder_String_any_k (w.heap.size+1) (w.heap.size+1) acc _ hI hsz).mono ?_)
  rintro e W1 rfl _ b1 _;have hb0:W1.heap[w.heap.size]?=some (.cells #[.int .u8 0,.int .i64 0,.string ⟨#[]⟩] 23):=by
   rw[b1.block _ (by omega),hbw.block _ (by omega)]
   show (w.heap.push _)[w.heap.size]?=_
   rw[Array.getElem?_push_size]
  have hend:unq8 (s.data.toList.drop k)=[]:=by
   have:(s.data.toList.drop k).length≤1:=by
    have:s.data.toList.length=s.size:=rfl;rw[List.length_drop];omega
   match s.data.toList.drop k,this with
   |[],_=>rfl
   |[_],_=>rfl
  rw[hend,List.append_nil] at hacc;have c0:W1.cell? ⟨w.heap.size,0,none⟩=some (.int .u8 0):=by simp [World.cell?,hb0]
  have c1:W1.cell? ⟨w.heap.size,1,none⟩=some (.int .i64 0):=by simp [World.cell?,hb0]
  have c2:W1.cell? ⟨w.heap.size,2,none⟩=some (.string ⟨#[]⟩):=by simp [World.cell?,hb0]
  have f0:W1.frozen? ⟨w.heap.size,0,none⟩=false:=by simp [World.frozen?,hb0]
  have f1:W1.frozen? ⟨w.heap.size,1,none⟩=false:=by simp [World.frozen?,hb0]
  have f2:W1.frozen? ⟨w.heap.size,2,none⟩=false:=by simp [World.frozen?,hb0]
  have hbB:Below w.heap.size w W1:=(((Below.refl _ w).alloc (Nat.le_refl _) _).trans (hbw.mono (by omega))).trans (b1.mono (by omega));have hb2:∀o:Value,(((W1.setCell ⟨w.heap.size,0,none⟩ (.int .u8 3)).setCell ⟨w.heap.size,1,none⟩ (.int .i64 0)).setCell ⟨w.heap.size,2,none⟩ o).heap[w.heap.size]?=some (.cells #[.int .u8 3,.int .i64 0,o] 23):=fun o=>by
   simp [World.setCell,Array.getElem?_modify,hb0]
  have hb3:∀o:Value,Below w.heap.size w (((W1.setCell ⟨w.heap.size,0,none⟩ (.int .u8 3)).setCell ⟨w.heap.size,1,none⟩ (.int .i64 0)).setCell ⟨w.heap.size,2,none⟩ o):=fun o =>
   ((hbB.setCell (Nat.le_refl _) _).setCell (Nat.le_refl _) _).setCell (Nat.le_refl _) _
  have HB:Go.Ab.Hid _:=⟨hb2⟩
  have HC:Go.Ab.Hid _:=⟨hb3⟩
  clear hbw b1 hb0 hI hend hb2 hb3 hbB;obtain⟨out,HO⟩:∃out,Go.Ab.Hid (unq8 (s.data.toList.drop 1)=out):=⟨_,⟨rfl⟩⟩;rw[HO.h] at hacc
  go_wp2
  have hb2:=HB.h (.string ⟨out.toArray⟩);have hb3:=HC.h (.string ⟨out.toArray⟩);generalize ((W1.setCell ⟨w.heap.size,0,none⟩ (.int .u8 3)).setCell ⟨w.heap.size,1,none⟩ (.int .i64 0)).setCell ⟨w.heap.size,2,none⟩ (.string ⟨out.toArray⟩)=W2 at hb2 hb3 ⊢;have d0:W2.cell? ⟨w.heap.size,0,none⟩=some (.int .u8 3):=by simp [World.cell?,hb2]
  have d1:W2.cell? ⟨w.heap.size,1,none⟩=some (.int .i64 0):=by simp [World.cell?,hb2]
  have d2:W2.cell? ⟨w.heap.size,2,none⟩=some (.string ⟨out.toArray⟩):=by simp [World.cell?,hb2]
  have hl:(loadVar 23 ⟨w.heap.size,0,none⟩).run Tryz.prog W2=.ok (.agg #[.int .u8 3,.int .i64 0,.string ⟨out.toArray⟩]) W2:=by
   simp [loadVar,loadCells,loadCellsFrom,run_load,Tryz.isAgg23,Tryz.sizeOf23,d0,d1,d2,Result.andThen,Addr.add_lit]
  have hrs:Tryz.f196.results=#[.cell 2 23,.tmp 3]:=by kernel_rfl
  refine bodyPost_ret (v:=.tuple #[.agg #[.int .u8 3,.int .i64 0,.string ⟨out.toArray⟩],.int .i64 0]) ?_ rfl ⟨?_,hb3⟩
  ·simp [Go.results,hrs,asAddr,hl,Result.andThen]
  rw[HO.h]
end Go.Proofs
namespace Go.Ab
open Go.Proofs
def zMP{P:Program}{w0 w:World}{γ:G}(h:w0.ShapedOpen P)(hb:Base w0 γ w):w.ShapedOpen P:=by
 have hk:w0.keptBut { w with os:=w0.os,output:=w0.output } (fun _=>False) :=
  zIX (w:=w0) (w':={ w with os:=w0.os,output:=w0.output }) (fun b hb'=>(hb.2 b hb').1) ⟨rfl,rfl⟩ _
 have h2:World.ShapedOpen P { w with os:=w0.os,output:=w0.output }:=h.keptBut hk (fun p hp=>hp.elim);exact h2.of_heap rfl
def zGv{P:Program}{w0 w:World}{γ:G}{n:String}{cs:Array Value}(h:w0.var? P n=some cs)(hb:Base w0 γ w):w.var? P n=some cs:=by
 unfold World.var? at *;cases hg:P.globalNamed n with
 |none=>simp [hg] at h
 |some g =>
  simp only[hg,Option.bind_some] at h ⊢;have hlt:g<w0.heap.size:=by
   rcases Nat.lt_or_ge g w0.heap.size with h'|h'
   ·exact h'
   rw[Array.getElem?_eq_none h'] at h;simp at h
  rw[(hb.2 g hlt).1];exact h
def zHY {w:World} {C:Cfg} {f:FuncId} {args:List AV} {v:AV} {vs:List Value} (hm:C.P.follows .mixedOrders=true) (hf:f<C.P.funcs.size) (hpr:uM C w) (h:Om C f args []=some (.val v,[]))
  (hv:∀(γ:G) (g:Look),γ.imm=zEO w→VRs γ g args vs) (hb:v=.t (.bool true)) :
  Calls C.P f vs.toArray w fun e w'=>e=.returned (.bool true)∧(∀b,b<w.heap.size→w'.heap[b]?=w.heap[b]?)∧w'.os=w.os∧w'.output=w.output:=by
 have ho:=zXg (C:=C) (w0:=w) hm hpr f args [] _ _ h
 let γ:G:=⟨fun _=>none,fun _=>0,zEO w⟩
 have hr:HR γ (nth []) w:=⟨fun id b h=>(by cases h),fun id id' b h=>(by cases h),fun b o v h=>h⟩
 have hbase:Base w γ w:=⟨Nat.le_refl _,fun b hb=>⟨rfl,fun id h=>(by cases h)⟩⟩
 refine((ho γ w vs hr hbase (hv γ _ rfl)).calls hf).mono fun e w' hp=>?_
 obtain⟨γ',h1,h2,h3,h4,h5⟩:=hp;subst hb;refine⟨?_,fun b hb=>(hbase.mono h2).2 b hb |>.1,h2.same⟩;cases e with
 |returned u =>
  have hu:VR γ' (nth []) (.t (.bool true)) u:=h5;cases hu with
  |t _ _ hu=>cases hu;rfl
 |panicked c=>exact False.elim h5
 |outgrown=>exact False.elim h5
def PQ(f:FuncId)(v:AV)(γ:G)(g:Look)(w:World)(vs:List Value):Prop :=
 Calls Tryz.prog f vs.toArray w fun e w'=>∃u,e=.returned u∧VR γ g v u∧(w'.os=w.os∧w'.output=w.output)∧w.heap.size≤w'.heap.size∧∀b,b<w.heap.size→w'.heap[b]?=w.heap[b]?
def arr(s:List Nat):ByteArray:=⟨(s.map UInt8.ofNat).toArray⟩
def uR(s:List Nat):(arr s).data.toList=ub s:=by simp [arr,ub]
def qZ(s:List Nat):(arr s).size=s.length:=by simp [arr,ByteArray.size]
def yHI(l:List UInt8):∀b ∈ nb l,b<256:=by
 intro b hb;obtain⟨c,_,rfl⟩:=List.mem_map.1 hb;exact c.toNat_lt
def yHY(l:List UInt8):ub (nb l)=l:=by
 unfold ub nb;rw[List.map_map];have:(UInt8.ofNat ∘ UInt8.toNat)=id:=by funext c;simp
 rw[this,List.map_id]
def zFy(I:Imm)(l:List UInt8):TR I (.str (nb l)) (.string ⟨l.toArray⟩):=by
 have h:=TR.str (I:=I) (nb l) (yHI l);have e:(nb l).map UInt8.ofNat=l:=yHY l;rw[e] at h;exact h
def zDO{w w':World}(h:RowKit.Below w.heap.size w w'):(w'.os=w.os∧w'.output=w.output)∧w.heap.size≤w'.heap.size∧∀b,b<w.heap.size→w'.heap[b]?=w.heap[b]?:=⟨⟨h.os,h.output⟩,h.size,fun b hb=>h.block b hb⟩
def zGB{w w':World}(h:w'=w):(w'.os=w.os∧w'.output=w.output)∧w.heap.size≤w'.heap.size∧∀b,b<w.heap.size→w'.heap[b]?=w.heap[b]?:=by
 subst h;exact⟨⟨rfl,rfl⟩,Nat.le_refl _,fun _ _=>rfl⟩
def kU{γ:G}{g:Look}{s:List Nat}{v:Value}(h:VR γ g (.t (.str s)) v):v=.string (arr s)∧∀b ∈ s,b<256:=by
 cases h with
 |t _ _ h=>cases h with|str s hs=>exact⟨rfl,hs⟩
def zGS{γ:G}{g:Look}{k:IntKind}{n:Int}{v:Value}(h:VR γ g (.t (.int k n)) v):v=.int k n:=by
 cases h with
 |t _ _ h=>cases h;rfl
def yBL{args:List AV}{v:AV}{γ:G}{g:Look}{w:World}{vs:List Value}(hp:zEI args=some v)(hvs:VRs γ g args vs):PQ 108 v γ g w vs:=by
 unfold zEI at hp;split at hp
 ·rename_i s c;cases hp;obtain⟨v1,vs1,rfl,h1,hvs1⟩:=hvs.cases_cons;obtain⟨v2,vs2,rfl,h2,hvs2⟩:=hvs1.cases_cons;obtain rfl:=hvs2.nil_inv;obtain⟨rfl,-⟩:=kU h1;obtain rfl:=zGS h2;refine(Tryz.strings_IndexByte (arr s) c w).mono fun e w' ⟨he,hw⟩=>⟨_,he,?_,zGB hw⟩
  rw[uR];exact .t _ _ (.int _ _)
 cases hp
def yGE{args:List AV}{v:AV}{γ:G}{g:Look}{w:World}{vs:List Value}(hs:w.ShapedOpen Tryz.prog)(hp:zDa args=some v)(hvs:VRs γ g args vs):PQ 126 v γ g w vs:=by
 unfold zDa at hp;split at hp
 ·rename_i s c;cases hl:Nat.blt s.length 4294967281 with
  |false=>rw[hl] at hp;cases hp
  |true =>
   rw[hl] at hp;cases hp;rw[Nat.blt_eq] at hl;obtain⟨v1,vs1,rfl,h1,hvs1⟩:=hvs.cases_cons;obtain⟨v2,vs2,rfl,h2,hvs2⟩:=hvs1.cases_cons;obtain rfl:=hvs2.nil_inv;obtain⟨rfl,-⟩:=kU h1;obtain⟨rfl,-⟩:=kU h2;refine(Tryz.strings_Contains_shaped (arr s) (arr c) w hs (by rw[qZ];exact hl)).mono fun e w' ⟨he,hw⟩=>⟨_,he,?_,zGB hw⟩
   rw[uR,uR];exact .t _ _ (.bool _)
 cases hp
def yFe{args:List AV}{v:AV}{γ:G}{g:Look}{w:World}{vs:List Value}(hs:w.ShapedOpen Tryz.prog)(hp:zI4 args=some v)(hvs:VRs γ g args vs):PQ 198 v γ g w vs:=by
 unfold zI4 at hp;split at hp
 ·rename_i s c;cases hl:Nat.blt s.length 4294967281 with
  |false=>rw[hl] at hp;cases hp
  |true =>
   rw[hl] at hp;cases hp;rw[Nat.blt_eq] at hl;obtain⟨v1,vs1,rfl,h1,hvs1⟩:=hvs.cases_cons;obtain⟨v2,vs2,rfl,h2,hvs2⟩:=hvs1.cases_cons;obtain rfl:=hvs2.nil_inv;obtain⟨rfl,-⟩:=kU h1;obtain⟨rfl,-⟩:=kU h2;refine(Tryz.strings_Cut_shaped (arr s) (arr c) w hs (by rw[qZ];exact hl)).mono fun e w' ⟨he,n,hw⟩=>⟨_,he,?_,?_⟩
   ·rw[uR,uR];refine VR.tup (vs:=[_,_,_]) _ rfl fun i c' v' hc hv=>?_
    match i,hc,hv with
    |0,hc,hv=>cases hc;cases hv;exact .t _ _ (zFy _ _)
    |1,hc,hv=>cases hc;cases hv;exact .t _ _ (zFy _ _)
    |2,hc,hv=>cases hc;cases hv;exact .t _ _ (.bool _)
    |n+3,hc,hv=>simp at hc
   subst hw;exact⟨⟨rfl,rfl⟩,Nat.le_refl _,fun _ _=>rfl⟩
 cases hp
def yEq{args:List AV}{v:AV}{γ:G}{g:Look}{w:World}{vs:List Value}(hs:w.ShapedOpen Tryz.prog)(hp:zB3 args=some v)(hvs:VRs γ g args vs):PQ 240 v γ g w vs:=by
 unfold zB3 at hp;split at hp
 ·rename_i s a b;cases hl:(Nat.blt s.length 4294967281&&Nat.ble 1 a.length&&Nat.ble (s.length+(s.length+1) * b.length) 140737488355328) with
  |false=>rw[hl] at hp;cases hp
  |true =>
   rw[hl] at hp;cases hp;simp only[Bool.and_eq_true,Nat.blt_eq,Nat.ble_eq] at hl;obtain⟨⟨l1,l2⟩,l3⟩:=hl;obtain⟨v1,vs1,rfl,h1,hvs1⟩:=hvs.cases_cons;obtain⟨v2,vs2,rfl,h2,hvs2⟩:=hvs1.cases_cons;obtain⟨v3,vs3,rfl,h3,hvs3⟩:=hvs2.cases_cons;obtain rfl:=hvs3.nil_inv;obtain⟨rfl,-⟩:=kU h1;obtain⟨rfl,-⟩:=kU h2;obtain⟨rfl,-⟩:=kU h3;have hc:Lib.countB (arr s) (arr a)≤(arr s).size:=Lib.countB_le (arr a) (by rw[qZ];exact l2) _ (arr s) (Nat.le_refl _);have hm:Lib.countB (arr s) (arr a) * (arr b).size≤(s.length+1) * b.length:=by
    simp only[qZ] at hc ⊢;exact Nat.mul_le_mul_right _ (by omega)
   refine(Tryz.strings_ReplaceAll_shaped (arr s) (arr a) (arr b) w hs (by rw[qZ];exact l1) (by rw[qZ];exact l2) (by simp only[qZ] at hm ⊢;omega)).mono fun e w' ⟨he,hw⟩=>⟨_,he,?_,zDO hw⟩
   rw[uR,uR,uR];exact .t _ _ (zFy _ _)
 cases hp
def yCh{args:List AV}{v:AV}{γ:G}{g:Look}{w:World}{vs:List Value}(hp:zCo args=some v)(hvs:VRs γ g args vs):PQ 239 v γ g w vs:=by
 unfold zCo at hp;split at hp
 ·rename_i s c;cases hl:(Nat.blt c 128&&Nat.ble s.length 9223372036854775807) with
  |false=>rw[hl] at hp;cases hp
  |true =>
   rw[hl] at hp;cases hp;simp only[Bool.and_eq_true,Nat.blt_eq,Nat.ble_eq] at hl;obtain⟨l1,l2⟩:=hl;obtain⟨v1,vs1,rfl,h1,hvs1⟩:=hvs.cases_cons;obtain⟨v2,vs2,rfl,h2,hvs2⟩:=hvs1.cases_cons;obtain rfl:=hvs2.nil_inv;obtain⟨rfl,-⟩:=kU h1;obtain⟨rfl,-⟩:=kU h2;refine(Tryz.strings_TrimRight_one (arr s) (UInt8.ofNat c) (by simp;omega) w (by rw[qZ];exact l2)).mono fun e w' ⟨he,hw⟩=>⟨_,he,?_,zGB hw⟩
   rw[uR];exact .t _ _ (zFy _ _)
 cases hp
def yFB {args : List AV} {v : AV} {γ : G} {g : Look} {w : World} {vs : List Value} (ht : Lib.TabIs Tryz.prog w "internal/strconv.uint64pow10" .u64 Lib.pow10Tab) (hp : zCm args = some v) (hvs : VRs γ g args vs) : PQ 202 v γ g w vs := by
 unfold zCm at hp;split at hp
 ·rename_i n;cases hl:(decide (-9223372036854775808≤n)&&decide (n≤9223372036854775807)) with
  |false=>rw[hl] at hp;cases hp
  |true =>
   rw[hl] at hp;cases hp;simp only[Bool.and_eq_true,decide_eq_true_eq] at hl;obtain⟨l1,l2⟩:=hl;obtain⟨v1,vs1,rfl,h1,hvs1⟩:=hvs.cases_cons;obtain⟨v2,vs2,rfl,h2,hvs2⟩:=hvs1.cases_cons;obtain rfl:=hvs2.nil_inv;obtain rfl:=zGS h1;obtain rfl:=zGS h2;refine(Tryz.strconv_FormatInt_10 n l1 l2 w ht).mono fun e w' ⟨he,k,os,hw⟩=>⟨_,he,.t _ _ (zFy _ _),?_⟩
   subst hw;refine⟨⟨rfl,rfl⟩,?_,fun b hb=>?_⟩
   ·show w.heap.size≤(w.heap++os).size
    simp
   show (w.heap++os)[b]?=_
   rw[Array.getElem?_append_left hb]
 cases hp
def yBH {args : List AV} {v : AV} {γ : G} {g : Look} {w : World} {vs : List Value} (hsyn : ∃ tp p, w.var? Tryz.prog "strconv.ErrSyntax" = some #[.iface tp p]) (hrng : ∃ tp p, w.var? Tryz.prog "strconv.ErrRange" = some #[.iface tp p])
  (hp:zC2 args=some v) (hvs:VRs γ g args vs):PQ 201 v γ g w vs:=by
 obtain⟨tp1,q1,hsyn⟩:=hsyn;obtain⟨tp2,q2,hrng⟩:=hrng;unfold zC2 at hp;split at hp
 ·rename_i s;cases hl:Nat.ble s.length 281474976710656 with
  |false=>rw[hl] at hp;cases hp
  |true =>
   rw[hl] at hp;simp only[Nat.ble_eq] at hl;obtain⟨v1,vs1,rfl,h1,hvs1⟩:=hvs.cases_cons;obtain⟨v2,vs2,rfl,h2,hvs2⟩:=hvs1.cases_cons;obtain⟨v3,vs3,rfl,h3,hvs3⟩:=hvs2.cases_cons;obtain rfl:=hvs3.nil_inv;obtain⟨rfl,-⟩:=kU h1;obtain rfl:=zGS h2;obtain rfl:=zGS h3;have e0:(arr s).data.toList=ub s:=uR s;dsimp only[cond_true] at hp;cases hpi:Lib.parseIntB 64 (ub s) with
   |ok n =>
    rw[hpi] at hp;cases hp;refine(Tryz.strconv_ParseInt_10_at64_ok (arr s) (by rw[qZ];omega) n (by rw[e0];exact hpi) w).mono fun e w' ⟨he,hw⟩=>⟨_,he,?_,?_⟩
    ·refine VR.tup (vs:=[_,_]) _ rfl fun i c' v' hc hv=>?_
     match i,hc,hv with
     |0,hc,hv=>cases hc;cases hv;exact .t _ _ (.int _ _)
     |1,hc,hv=>cases hc;cases hv;exact .t _ _ .nilifc
     |n+2,hc,hv=>simp at hc
    rcases hw with hw|⟨t,hw⟩
    ·exact zGB hw
    subst hw;exact zDO (Lib.bytesWorld_below _ _ _)
   |range =>
    rw[hpi] at hp;cases hp;refine(Tryz.strconv_ParseInt_10_at64_range_var (arr s) (by rw[qZ];exact hl) (by rw[e0];exact hpi) tp2 q2 w hrng).mono fun e w' ⟨N,he,_,_,hw⟩=>⟨_,he,?_,zDO hw⟩
    refine VR.tup (vs:=[_,_]) _ rfl fun i c' v' hc hv=>?_
    match i,hc,hv with
    |0,hc,hv=>cases hc;cases hv;rw[e0];exact .t _ _ (.int _ _)
    |1,hc,hv=>cases hc;cases hv;exact .ifx _ _
    |n+2,hc,hv=>simp at hc
   |_ =>
    rw[hpi] at hp;cases hp;refine(Tryz.strconv_ParseInt_10_at64_syntax_var (arr s) (by rw[qZ];exact hl) (by rw[e0];exact hpi) tp1 q1 w hsyn).mono fun e w' ⟨N,he,_,_,hw⟩=>⟨_,he,?_,zDO hw⟩
    refine VR.tup (vs:=[_,_]) _ rfl fun i c' v' hc hv=>?_
    match i,hc,hv with
    |0,hc,hv=>cases hc;cases hv;exact .t _ _ (.int _ _)
    |1,hc,hv=>cases hc;cases hv;exact .ifx _ _
    |n+2,hc,hv=>simp at hc
 cases hp
def zMZ:∀ {s:List Nat},(∀b ∈ s,b<256)→(unq s).map UInt8.ofNat=unq8 (s.map UInt8.ofNat)∧∀b ∈ unq s,b<256
 |[],_=>⟨rfl,by simp [unq]⟩
 |[_],_=>⟨rfl,by simp [unq]⟩
 |c::d::r,h=>by
  have hc:=h c (by simp);have hd:=h d (by simp);have h1:=zMZ (s:=r) (fun b hb=>h b (by simp [hb]));have h2:=zMZ (s:=d::r) (fun b hb=>h b (List.mem_cons_of_mem _ hb));have e:(UInt8.ofNat c=92)↔c=92:=by
   constructor
   ·intro he;have:=congrArg UInt8.toNat he;simp at this;omega
   rintro rfl;rfl
  unfold unq;simp only[List.map_cons,unq8]
  by_cases h92:c=92
  ·rw[if_pos h92,if_pos (e.2 h92)];refine⟨by rw[List.map_cons,h1.1],fun b hb=>?_⟩;rcases List.mem_cons.1 hb with rfl|hb
   ·exact hd
   exact h1.2 b hb
  rw[if_neg h92,if_neg (fun x=>h92 (e.1 x))];refine⟨by rw[List.map_cons,h2.1];rfl,fun b hb=>?_⟩;rcases List.mem_cons.1 hb with rfl|hb
  ·exact hc
  exact h2.2 b hb
def yGu{args:List AV}{v:AV}{γ:G}{g:Look}{w:World}{vs:List Value}(hp:zHu args=some v)(hvs:VRs γ g args vs):PQ 196 v γ g w vs:=by
 unfold zHu at hp;split at hp
 ·rename_i s;cases hl:Nat.ble s.length 4294967296 with
  |false=>rw[hl] at hp;cases hp
  |true =>
   rw[hl] at hp;cases hp;rw[Nat.ble_eq] at hl;obtain⟨v1,vs1,rfl,h1,hvs1⟩:=hvs.cases_cons;obtain rfl:=hvs1.nil_inv;obtain⟨rfl,hsb⟩:=kU h1;obtain⟨u1,u2⟩:=zMZ (s:=s.drop 1) (fun b hb=>hsb b (List.mem_of_mem_drop hb));refine(Tryz.text_walk (arr s) w (by rw[qZ];exact hl)).mono fun e w' ⟨he,hw⟩=>⟨_,he,?_,zDO hw⟩
   have e1:unq8 ((arr s).data.toList.drop 1)=(unq (s.drop 1)).map UInt8.ofNat:=by
    rw[uR,u1];unfold ub;rw[List.map_drop]
   rw[e1];refine VR.tup (vs:=[_,_]) _ rfl fun i c' v' hc hv=>?_
   match i,hc,hv with
   |0,hc,hv =>
    cases hc;cases hv;refine .t _ _ (TR.agg (vs:=[_,_,_]) _ rfl fun i c' v' hc hv=>?_)
    match i,hc,hv with
    |0,hc,hv=>cases hc;cases hv;exact .int _ _
    |1,hc,hv=>cases hc;cases hv;exact .int _ _
    |2,hc,hv=>cases hc;cases hv;exact .str _ u2
    |n+3,hc,hv=>simp at hc
   |1,hc,hv=>cases hc;cases hv;exact .t _ _ (.int _ _)
   |n+2,hc,hv=>simp at hc
 cases hp
def zLe:∀ {es:List (List Tree)} {xs:List (List Nat)},uH es=some xs→es=xs.map fun x=>[.str x]
 |[],xs,h=>by cases h;rfl
 |[.str s]::es,xs,h=>by
  rw[uH] at h;cases hs:uH es with
  |none=>rw[hs] at h;cases h
  |some l =>
   rw[hs] at h;cases h;rw[zLe hs];rfl
 |[]::es,xs,h=>by simp [uH] at h
 |(.bool _::_)::es,xs,h=>by simp [uH] at h
 |(.int _ _::_)::es,xs,h=>by simp [uH] at h
 |(.sl _ _ _::_)::es,xs,h=>by simp [uH] at h
 |(.agg _::_)::es,xs,h=>by simp [uH] at h
 |(.ifc _ _::_)::es,xs,h=>by simp [uH] at h
 |(.nilifc::_)::es,xs,h=>by simp [uH] at h
 |(.fn _::_)::es,xs,h=>by simp [uH] at h
 |(.nilfn::_)::es,xs,h=>by simp [uH] at h
 |(.nilptr::_)::es,xs,h=>by simp [uH] at h
 |(.nilmap::_)::es,xs,h=>by simp [uH] at h
 |(.str _::_::_)::es,xs,h=>by simp [uH] at h
def yHs{args:List AV}{v:AV}{γ:G}{g:Look}{w:World}{vs:List Value}(hr:HR γ g w)(hp:zFG args=some v)(hvs:VRs γ g args vs):PQ 46 v γ g w vs:=by
 unfold zFG at hp;split at hp
 ·rename_i nl cl es sep;cases hx:uH es with
  |none=>rw[hx] at hp;cases hp
  |some xs =>
   rw[hx] at hp;dsimp only at hp;cases hl:(Nat.ble xs.length 140737488355328&&Nat.ble (Lib.join (xs.map ub) (ub sep)).length 140737488355328) with
   |false=>rw[hl] at hp;cases hp
   |true =>
    rw[hl] at hp;cases hp;simp only[Bool.and_eq_true,Nat.ble_eq] at hl;obtain⟨l1,l2⟩:=hl;obtain⟨v1,vs1,rfl,h1,hvs1⟩:=hvs.cases_cons;obtain⟨v2,vs2,rfl,h2,hvs2⟩:=hvs1.cases_cons;obtain rfl:=hvs2.nil_inv;obtain⟨rfl,-⟩:=kU h2;have hes:=zLe hx;subst hes;have e1:((xs.map arr).map fun x=>x.data.toList)=xs.map ub:=by
     rw[List.map_map];exact List.map_congr_left fun x _=>uR x
    cases h1 with
    |t _ _ h1 =>
    cases h1 with
    |sl _ _ _ a cap sz val h0 h1 h2 h3 h4 h5 h6 =>
    cases xs with
    |nil =>
     refine(Tryz.strings_Join_none a cap (arr sep) w).mono fun e w' ⟨he,hw⟩=>⟨_,he,?_,zGB hw⟩
     have:Lib.join (([]:List (List Nat)).map ub) (ub sep)=[]:=rfl;rw[this];exact .t _ _ (zFy _ [])
    |cons x0 xs' =>
     generalize hX:x0::xs'=xs at *;have hne:xs≠[]:=by rw[← hX];exact List.cons_ne_nil _ _
     have hm:(xs.map fun x=>[Tree.str x])≠[]:=fun h=>hne (List.map_eq_nil_iff.1 h)
     have hnl:nl=false:=by
      cases nl with
      |false=>rfl
      |true=>exact absurd (h0 rfl).2.1 hm
     obtain⟨_,b,o,ha,hcell⟩:=h1 hnl;have ha:=ha hm;subst ha;have hs1:sz=1:=by
      have:=h2 [Tree.str x0] (List.mem_map.2 ⟨x0,by rw[← hX];exact .head _,rfl⟩)
      simpa using this.symm
     subst hs1;have hget:∀(j:Nat) x,xs[j]?=some x→w.cell? ⟨b,o+j,none⟩=some (.string (arr x)):=by
      intro j x hj;have hj2:(xs.map fun x=>[Tree.str x])[j]?=some [Tree.str x]:=by rw[List.getElem?_map,hj];rfl
      have c1:=hr.imm _ _ _ (hcell j 0 _ _ hj2 rfl);have c2:=h3 j 0 _ _ hj2 rfl;have c3:val j 0=.string (arr x):=by
       generalize val j 0=u at c2;cases c2;rfl
      rw[c3] at c1
      simpa using c1
     have hbk:b<w.heap.size:=by
      have h00:xs[0]?=some x0:=by rw[← hX];rfl
      have:=hget 0 x0 h00;rcases Nat.lt_or_ge b w.heap.size with h|h
      ·exact h
      simp [World.cell?,Array.getElem?_eq_none h] at this
     have hJ:=Tryz.strings_Join b o cap (xs.map arr) (arr sep) w (fun j x hj=>by
       rw[List.getElem?_map] at hj;cases hx':xs[j]? with
       |none=>rw[hx'] at hj;cases hj
       |some y=>rw[hx'] at hj;cases hj;exact hget j y hx') hbk (by rw[List.length_map];exact l1) (by rw[List.length_map] at h4 ⊢;exact h4) (by rw[e1,uR];exact l2)
     rw[e1,uR,List.length_map] at hJ;unfold PQ;rw[List.length_map];refine hJ.mono fun e w' ⟨he,hw⟩=>⟨_,he,?_,zDO hw⟩
     exact .t _ _ (zFy _ _)
 cases hp
def zUn {w0 : World} (h0 : w0.ShapedOpen Tryz.prog) (ht : Lib.TabIs Tryz.prog w0 "internal/strconv.uint64pow10" .u64 Lib.pow10Tab)
  (hsyn : ∃ tp p, w0.var? Tryz.prog "strconv.ErrSyntax" = some #[.iface tp p]) (hrng : ∃ tp p, w0.var? Tryz.prog "strconv.ErrRange" = some #[.iface tp p]) : uM CC w0 := by
 refine⟨of_decide_eq_true (by kernel_rfl),fun f args v hp _ γ g w vs hr hb hvs=>?_⟩;have hs:=zMP h0 hb
 have ht' : Lib.TabIs Tryz.prog w "internal/strconv.uint64pow10" .u64 Lib.pow10Tab := zGv ht hb
 have hsyn' : ∃ tp p, w.var? Tryz.prog "strconv.ErrSyntax" = some #[.iface tp p] := hsyn.imp fun _ h => h.imp fun _ h => zGv h hb
 have hrng' : ∃ tp p, w.var? Tryz.prog "strconv.ErrRange" = some #[.iface tp p] := hrng.imp fun _ h => h.imp fun _ h => zGv h hb
 change prims f args=some v at hp
 unfold prims at hp
 show PQ f v γ g w vs
 cases e1:Nat.beq f 108 with
 |true=>rw[e1] at hp;obtain rfl:=Nat.eq_of_beq_eq_true e1;exact yBL hp hvs
 |false =>
 rw[e1] at hp;cases e2:Nat.beq f 46 with
 |true=>rw[e2] at hp;obtain rfl:=Nat.eq_of_beq_eq_true e2;exact yHs hr hp hvs
 |false =>
 rw[e2] at hp;cases e3:Nat.beq f 126 with
 |true=>rw[e3] at hp;obtain rfl:=Nat.eq_of_beq_eq_true e3;exact yGE hs hp hvs
 |false =>
 rw[e3] at hp;cases e4:Nat.beq f 198 with
 |true=>rw[e4] at hp;obtain rfl:=Nat.eq_of_beq_eq_true e4;exact yFe hs hp hvs
 |false =>
 rw[e4] at hp;cases e5:Nat.beq f 240 with
 |true=>rw[e5] at hp;obtain rfl:=Nat.eq_of_beq_eq_true e5;exact yEq hs hp hvs
 |false =>
 rw[e5] at hp;cases e6:Nat.beq f 239 with
 |true=>rw[e6] at hp;obtain rfl:=Nat.eq_of_beq_eq_true e6;exact yCh hp hvs
 |false =>
 rw[e6] at hp;cases e7:Nat.beq f 202 with
 |true=>rw[e7] at hp;obtain rfl:=Nat.eq_of_beq_eq_true e7;exact yFB ht' hp hvs
 |false =>
 rw[e7] at hp;cases e8:Nat.beq f 201 with
 |true=>rw[e8] at hp;obtain rfl:=Nat.eq_of_beq_eq_true e8;exact yBH hsyn' hrng' hp hvs
 |false =>
 rw[e8] at hp;cases e9:Nat.beq f 196 with
 |true=>rw[e9] at hp;obtain rfl:=Nat.eq_of_beq_eq_true e9;exact yGu hp hvs
 |false =>
 rw[e9] at hp;cases hp
end Go.Ab
namespace Go.Ab
open Go.Proofs Go.ChangeShapes Go.WideShapes
def zZE:Tryz.prog.cellsOf 2=1:=by kernel_rfl
def yAu:Tryz.prog.cellsOf 5=1:=by kernel_rfl
def zRv:Tryz.prog.cellsOf 9=1:=by kernel_rfl
def zOx:Tryz.prog.cellsOf 23=3:=by kernel_rfl
def zPO:Tryz.prog.cellsOf 45=4:=by kernel_rfl
def yAq:∃fs,Tryz.prog.underlying 23=some (.struct fs)∧fs.toList.map (fun f=>(f.type,f.offset))=[(5,0),(2,1),(9,2)]:=⟨_,Tryz.underlying23,by kernel_rfl⟩
def yAB:∃fs,Tryz.prog.underlying 45=some (.struct fs)∧fs.toList.map (fun f=>(f.type,f.offset))=[(9,0),(23,1)]:=⟨_,Tryz.underlying45,by kernel_rfl⟩
section
variable {H:Type} {enc:TypeId×Value→H} {w:World}
def Val.ok(x:Val):Prop:=(Lit.int .u8 x.k).wf=true∧(Lit.int .i64 x.n).wf=true∧StrOK x.s
theorem zPv:Dec enc Tryz.prog w 23 Val.c Val.ok:=by
 intro cs h;obtain⟨hl,hf⟩:=zN7 yAq h;have h0:Rd enc Tryz.prog w 5 ((cs.drop 0).take 1):=by have:=hf (5,0) (by simp);simp only[yAu] at this;exact this
 obtain⟨a0,c0,k0⟩:=zRr (k:=.u8) Tryz.underlying5 _ h0;have h1:Rd enc Tryz.prog w 2 ((cs.drop 1).take 1):=by have:=hf (2,1) (by simp);simp only[zZE] at this;exact this
 obtain⟨a1,c1,k1⟩:=zRr (k:=.i64) Tryz.underlying2 _ h1;have h2:Rd enc Tryz.prog w 9 ((cs.drop 2).take 1):=by have:=hf (9,2) (by simp);simp only[zRv] at this;exact this
 obtain⟨a2,c2,k2⟩:=zGN Tryz.underlying9 _ h2;rw[zOx] at hl;refine⟨⟨a0,a1,a2⟩,?_,⟨k0,k1,k2⟩⟩;exact zGG c0 (zGG c1 (zGG c2 (zT6 hl)))
def Bind.ok(x:Bind):Prop:=StrOK x.name∧Val.ok x.v
theorem zTd:Dec enc Tryz.prog w 45 Bind.c Bind.ok:=by
 intro cs h;obtain⟨hl,hf⟩:=zN7 yAB h;have h0:Rd enc Tryz.prog w 9 ((cs.drop 0).take 1):=by have:=hf (9,0) (by simp);simp only[zRv] at this;exact this
 obtain⟨a0,c0,k0⟩:=zGN Tryz.underlying9 _ h0;have h1:Rd enc Tryz.prog w 23 ((cs.drop 1).take 3):=by have:=hf (23,1) (by simp);simp only[zOx] at this;exact this
 obtain⟨a1,c1,k1⟩:=zPv _ h1;rw[zPO] at hl;refine⟨⟨a0,a1⟩,?_,⟨k0,k1⟩⟩;exact zGG c0 (zGG c1 (zT6 hl))
theorem zT2:Dec enc Tryz.prog w 24 (fun x:Sl Bind=>[x.t Bind.c]) (SlOK Bind.ok):=zTf Tryz.underlying24 zPO (by decide) (fun _=>rfl) zTd
end
end Go.Ab
