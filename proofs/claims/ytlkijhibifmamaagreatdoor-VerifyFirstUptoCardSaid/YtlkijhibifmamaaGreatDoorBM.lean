/- Lemmas. No condition. -/
import Derived.Test.YtlkijhibifmamaaGreatDoorBK
import Derived.Test.YtlkijhibifmamaaGreatDoorBL
import Derived.Shelf.Strings.Builder1
import Derived.Shelf.Strings.OnBuilder
import Derived.Shelf.Strconv.Itoa3
import Derived.Shelf.LaysM
import Derived.Shelf.Sort.Plain
import Derived.Shelf.Strings.Split
import Derived.Shelf.Slices.In.SortNone
import Derived.WalkSpells
import Derived.WalkLawsBesides
import Derived.MapKept
set_option linter.all false
set_option autoImplicit true
set_option relaxedAutoImplicit true
set_option maxHeartbeats 0
set_option maxRecDepth 100000
noncomputable section
open Option renaming some→Y,none→J
open Bool renaming true→dT,false→dU
open List renaming length→O
namespace Go.Proofs
open Go.Shelf
def Tryz.lays156_ren:Go.Shelf.Ren:=⟨λ|156=>302|165=>314|166=>312|169=>313|240=>319|241=>320|276=>321|277=>322|n=>n,λ|31=>44|9=>9|3=>3|4=>4|0=>0|20=>20|72=>422|76=>424|70=>420|37=>405|75=>59|127=>427|164=>174|5=>5|80=>317|n=>n,λ|n=>n⟩
def Tryz.lays156:Go.Proofs.Lays.n156 Tryz.prog Tryz.lays156_ren:={
 mixed:=by kernel_rfl
 f156:=Tryz.func302.trans (fW Y eU)
 f165:=Tryz.func314.trans (fW Y eU)
 f166:=Tryz.func312.trans (fW Y eU)
 f169:=Tryz.func313.trans (fW Y eU)
 f240:=Tryz.func319.trans (fW Y eU)
 f241:=Tryz.func320.trans (fW Y eU)
 f276:=Tryz.func321.trans (fW Y eU)
 f277:=Tryz.func322.trans (fW Y eU)
 t0:=Tryz.underlying0
 a0:=Tryz.isAgg0
 z0:=Tryz.sizeOf0
 v0:=Tryz.zeroValue0
 t3:=Tryz.underlying3
 a3:=Tryz.isAgg3
 z3:=Tryz.sizeOf3
 v3:=Tryz.zeroValue3
 t4:=Tryz.underlying4
 a4:=Tryz.isAgg4
 z4:=Tryz.sizeOf4
 v4:=Tryz.zeroValue4
 t9:=Tryz.underlying9
 a9:=Tryz.isAgg9
 z9:=Tryz.sizeOf9
 v9:=Tryz.zeroValue9
 t20:=Tryz.underlying20
 a20:=Tryz.isAgg20
 z20:=Tryz.sizeOf20
 v20:=Tryz.zeroValue20
 t31:=Tryz.underlying44
 a31:=Tryz.isAgg44
 z31:=Tryz.sizeOf44
 v31:=Tryz.zeroValue44
 t37:=Tryz.underlying405
 a37:=Tryz.isAgg405
 z37:=Tryz.sizeOf405
 v37:=Tryz.zeroValue405
 t70:=Tryz.underlying420
 a70:=Tryz.isAgg420
 z70:=Tryz.sizeOf420
 v70:=Tryz.zeroValue420
 t72:=Tryz.underlying422
 a72:=Tryz.isAgg422
 z72:=Tryz.sizeOf422
 v72:=Tryz.zeroValue422
 t75:=Tryz.underlying59
 a75:=Tryz.isAgg59
 z75:=Tryz.sizeOf59
 v75:=Tryz.zeroValue59
 t76:=Tryz.underlying424
 a76:=Tryz.isAgg424
 z76:=Tryz.sizeOf424
 v76:=Tryz.zeroValue424
 t127:=Tryz.underlying427
 a127:=Tryz.isAgg427
 z127:=Tryz.sizeOf427
 v127:=Tryz.zeroValue427
 t164:=Tryz.underlying174
 a164:=Tryz.isAgg174
 z164:=Tryz.sizeOf174
 v164:=Tryz.zeroValue174}
def Tryz.Builder_Extra_156:Builder.Extra Tryz.prog Tryz.lays156_ren:={
 sizeBuilder:=by kernel_rfl
 liesBuilder:=by kernel_rfl
 t5:=Tryz.underlying5
 a5:=Tryz.isAgg5
 z5:=Tryz.sizeOf5
 v5:=Tryz.zeroValue5
 infoByte:=by kernel_rfl
 cellsByte:=by kernel_rfl
 sizeByte:=by kernel_rfl
 neB5:=by decide}
open Go.RowKit in
def Tryz.strings_Join_none(a:Option Addr)(c:Nat)(b:ByteArray)(w:World):
  Calls Tryz.prog 302 #[.slice a 0 c,.string b] w λe P=>e=.returned (.string ⟨#[]⟩)/\P=w:=Any.strings_Join_none Tryz.lays156 Tryz.Builder_Extra_156 a c b w
open Go.RowKit in
def Tryz.strings_Join(f o c:Nat)(s:L ByteArray)(b:ByteArray)(w:World)(a:∀(j:Nat) x,s[j]? =Y x->w.cell? ⟨f,o+j,J⟩=Y (.string x))(g:f<w.heap.size)(h:O s<=140737488355328)(d:O s<=c)(k:O (Lib.join (s.map (·.data.toList)) b.data.toList)<=140737488355328):
  Calls Tryz.prog 302 #[.slice (Y ⟨f,o,J⟩) (O s) c,.string b] w λe P=>e=.returned (.string ⟨(Lib.join (s.map (·.data.toList)) b.data.toList).toArray⟩)/\Below w.heap.size w P:=Any.strings_Join Tryz.lays156 Tryz.Builder_Extra_156 f o c s b w a g h d k
def Tryz.afK:Go.Shelf.Ren:=⟨λ|171=>220|243=>249|246=>270|283=>293|284=>294|285=>295|286=>296|129=>194|317=>304|318=>305|319=>306|320=>307|337=>316|338=>317|n=>n,λ|3=>3|9=>9|2=>2|4=>4|171=>403|0=>0|53=>230|37=>405|5=>5|173=>406|212=>416|51=>330|20=>20|213=>417|46=>254|232=>428|233=>429|n=>n,λ|17=>8|18=>9|19=>10|n=>n⟩
def Tryz.laysM171:Go.Proofs.LaysM.n171 Tryz.prog Tryz.afK:={
 mixed:=by kernel_rfl
 f129:=Tryz.func194.trans (fW Y eU)
 f171:=Tryz.func220.trans (fW Y eU)
 f243:=Tryz.func249.trans (fW Y eU)
 f246:=Tryz.func270.trans (fW Y eU)
 f283:=Tryz.func293.trans (fW Y eU)
 f284:=Tryz.func294.trans (fW Y eU)
 f285:=Tryz.func295.trans (fW Y eU)
 f286:=Tryz.func296.trans (fW Y eU)
 f317:=Tryz.func304.trans (fW Y eU)
 f318:=Tryz.func305.trans (fW Y eU)
 f319:=Tryz.func306.trans (fW Y eU)
 f320:=Tryz.func307.trans (fW Y eU)
 f337:=Tryz.func316.trans (fW Y eU)
 f338:=Tryz.func317.trans (fW Y eU)
 t0:=Tryz.underlying0
 a0:=Tryz.isAgg0
 z0:=Tryz.sizeOf0
 v0:=Tryz.zeroValue0
 t2:=Tryz.underlying2
 a2:=Tryz.isAgg2
 z2:=Tryz.sizeOf2
 v2:=Tryz.zeroValue2
 t3:=Tryz.underlying3
 a3:=Tryz.isAgg3
 z3:=Tryz.sizeOf3
 v3:=Tryz.zeroValue3
 t4:=Tryz.underlying4
 a4:=Tryz.isAgg4
 z4:=Tryz.sizeOf4
 v4:=Tryz.zeroValue4
 t5:=Tryz.underlying5
 a5:=Tryz.isAgg5
 z5:=Tryz.sizeOf5
 v5:=Tryz.zeroValue5
 t9:=Tryz.underlying9
 a9:=Tryz.isAgg9
 z9:=Tryz.sizeOf9
 v9:=Tryz.zeroValue9
 t20:=Tryz.underlying20
 a20:=Tryz.isAgg20
 z20:=Tryz.sizeOf20
 v20:=Tryz.zeroValue20
 t37:=Tryz.underlying405
 a37:=Tryz.isAgg405
 z37:=Tryz.sizeOf405
 v37:=Tryz.zeroValue405
 t46:=Tryz.underlying254
 a46:=Tryz.isAgg254
 z46:=Tryz.sizeOf254
 v46:=Tryz.zeroValue254
 t51:=Tryz.underlying330
 a51:=Tryz.isAgg330
 z51:=Tryz.sizeOf330
 v51:=Tryz.zeroValue330
 t53:=Tryz.underlying230
 a53:=Tryz.isAgg230
 z53:=Tryz.sizeOf230
 v53:=Tryz.zeroValue230
 t171:=Tryz.underlying403
 a171:=Tryz.isAgg403
 z171:=Tryz.sizeOf403
 v171:=Tryz.zeroValue403
 t173:=Tryz.underlying406
 a173:=Tryz.isAgg406
 z173:=Tryz.sizeOf406
 v173:=Tryz.zeroValue406
 t212:=Tryz.underlying416
 a212:=Tryz.isAgg416
 z212:=Tryz.sizeOf416
 v212:=Tryz.zeroValue416
 t213:=Tryz.underlying417
 a213:=Tryz.isAgg417
 z213:=Tryz.sizeOf417
 t232:=Tryz.underlying428
 a232:=Tryz.isAgg428
 z232:=Tryz.sizeOf428
 v232:=Tryz.zeroValue428
 t233:=Tryz.underlying429
 a233:=Tryz.isAgg429
 z233:=Tryz.sizeOf429
 v233:=Tryz.zeroValue429
 g17:=by kernel_rfl
 g18:=by kernel_rfl
 g19:=by kernel_rfl
 i0:=by kernel_rfl
 i2:=by kernel_rfl
 i3:=by kernel_rfl
 i4:=by kernel_rfl
 i5:=by kernel_rfl
 i9:=by kernel_rfl
 i20:=by kernel_rfl
 i37:=by kernel_rfl
 i46:=by kernel_rfl
 i51:=by kernel_rfl
 i53:=by kernel_rfl
 i171:=by kernel_rfl
 i173:=by kernel_rfl
 i212:=by kernel_rfl
 i232:=by kernel_rfl
 i233:=by kernel_rfl
 m17:=by kernel_rfl
 m18:=by kernel_rfl
 m19:=by kernel_rfl}
open Go.RowKit Go.Sort Go.Lib in
def Tryz.strconv_Itoa(n:Int)(c: -9223372036854775808<=n)(K:n<=9223372036854775807)(w:World)(a:Lib.TabIs Tryz.prog w "internal/strconv.uint64pow10" .u64 Lib.pow10Tab):
  Calls Tryz.prog 220 #[.int .i64 n] w λe P=>e=.returned (.string ⟨(Lib.itoa n).toArray⟩)/\∃k q,P=grow (w.drewN k) q:=Any.strconv_Itoa Tryz.laysM171 n c K w a
def Tryz.afL:Go.Shelf.Ren:=⟨λ|189=>169|125=>135|257=>216|128=>193|129=>194|294=>236|295=>237|296=>238|297=>239|298=>240|299=>241|216=>242|300=>243|301=>244|328=>262|329=>225|330=>226|331=>263|332=>264|215=>265|343=>290|n=>n,λ|28=>35|3=>3|46=>254|0=>0|51=>330|53=>230|4=>4|183=>323|182=>322|131=>327|5=>5|9=>9|218=>354|222=>358|228=>378|229=>360|n=>n,λ|n=>n⟩
def Tryz.lays189:Go.Proofs.Lays.n189 Tryz.prog Tryz.afL:={
 mixed:=by kernel_rfl
 f125:=Tryz.func135.trans (fW Y eU)
 f128:=Tryz.func193.trans (fW Y eU)
 f129:=Tryz.func194.trans (fW Y eU)
 f189:=Tryz.func169.trans (fW Y eU)
 f215:=Tryz.func265.trans (fW Y eU)
 f216:=Tryz.func242.trans (fW Y eU)
 f257:=Tryz.func216.trans (fW Y eU)
 f294:=Tryz.func236.trans (fW Y eU)
 f295:=Tryz.func237.trans (fW Y eU)
 f296:=Tryz.func238.trans (fW Y eU)
 f297:=Tryz.func239.trans (fW Y eU)
 f298:=Tryz.func240.trans (fW Y eU)
 f299:=Tryz.func241.trans (fW Y eU)
 f300:=Tryz.func243.trans (fW Y eU)
 f301:=Tryz.func244.trans (fW Y eU)
 f328:=Tryz.func262.trans (fW Y eU)
 f329:=Tryz.func225.trans (fW Y eU)
 f330:=Tryz.func226.trans (fW Y eU)
 f331:=Tryz.func263.trans (fW Y eU)
 f332:=Tryz.func264.trans (fW Y eU)
 f343:=Tryz.func290.trans (fW Y eU)
 t0:=Tryz.underlying0
 a0:=Tryz.isAgg0
 z0:=Tryz.sizeOf0
 v0:=Tryz.zeroValue0
 t3:=Tryz.underlying3
 a3:=Tryz.isAgg3
 z3:=Tryz.sizeOf3
 v3:=Tryz.zeroValue3
 t4:=Tryz.underlying4
 a4:=Tryz.isAgg4
 z4:=Tryz.sizeOf4
 v4:=Tryz.zeroValue4
 t5:=Tryz.underlying5
 a5:=Tryz.isAgg5
 z5:=Tryz.sizeOf5
 v5:=Tryz.zeroValue5
 t9:=Tryz.underlying9
 a9:=Tryz.isAgg9
 z9:=Tryz.sizeOf9
 v9:=Tryz.zeroValue9
 t28:=Tryz.underlying35
 a28:=Tryz.isAgg35
 z28:=Tryz.sizeOf35
 v28:=Tryz.zeroValue35
 t46:=Tryz.underlying254
 a46:=Tryz.isAgg254
 z46:=Tryz.sizeOf254
 v46:=Tryz.zeroValue254
 t51:=Tryz.underlying330
 a51:=Tryz.isAgg330
 z51:=Tryz.sizeOf330
 v51:=Tryz.zeroValue330
 t53:=Tryz.underlying230
 a53:=Tryz.isAgg230
 z53:=Tryz.sizeOf230
 v53:=Tryz.zeroValue230
 t131:=Tryz.underlying327
 a131:=Tryz.isAgg327
 z131:=Tryz.sizeOf327
 v131:=Tryz.zeroValue327
 t182:=Tryz.underlying322
 a182:=Tryz.isAgg322
 z182:=Tryz.sizeOf322
 v182:=Tryz.zeroValue322
 t183:=Tryz.underlying323
 a183:=Tryz.isAgg323
 z183:=Tryz.sizeOf323
 v183:=Tryz.zeroValue323
 t218:=Tryz.underlying354
 a218:=Tryz.isAgg354
 z218:=Tryz.sizeOf354
 v218:=Tryz.zeroValue354
 t222:=Tryz.underlying358
 a222:=Tryz.isAgg358
 z222:=Tryz.sizeOf358
 v222:=Tryz.zeroValue358
 t228:=Tryz.underlying378
 a228:=Tryz.isAgg378
 z228:=Tryz.sizeOf378
 v228:=Tryz.zeroValue378
 t229:=Tryz.underlying360
 a229:=Tryz.isAgg360
 z229:=Tryz.sizeOf360
 v229:=Tryz.zeroValue360}
open Go.Sort Go.RowKit in
def Tryz.slices_Sort_int(eC b cap:Nat)(m:L Int)(w:World)(K:Holds (Value.int .i64) w eC b m.toArray)(a:eC<w.heap.size)(C:O m<4611686018427387904):
  Calls Tryz.prog 169 #[.slice (Y ⟨eC,b,J⟩) (O m) cap] w λe P=>
   e=.returned (.tuple #[])/\∃n q,P=grow (putRow (Value.int .i64) (Sort.ahead w n) eC b (m.mergeSort λx y=>decide (x<=y)).toArray) q:=Any.slices_Sort_int Tryz.lays189 eC b cap m w K a C
def Tryz.lays146_ren:Go.Shelf.Ren:=⟨λ|146=>133|221=>184|268=>221|138=>222|143=>223|195=>250|197=>251|218=>252|219=>231|260=>271|217=>257|225=>258|224=>259|267=>260|266=>273|314=>274|n=>n,λ|9=>9|31=>44|3=>3|4=>4|0=>0|105=>375|21=>21|5=>5|46=>254|119=>408|139=>411|138=>410|146=>399|51=>330|n=>n,λ|1=>5|3=>6|4=>7|n=>n⟩
def Tryz.lays146:Go.Proofs.Lays.n146 Tryz.prog Tryz.lays146_ren:={
 mixed:=by kernel_rfl
 f138:=Tryz.func222.trans (fW Y eU)
 f143:=Tryz.func223.trans (fW Y eU)
 f146:=Tryz.func133.trans (fW Y eU)
 f195:=Tryz.func250.trans (fW Y eU)
 f197:=Tryz.func251.trans (fW Y eU)
 f217:=Tryz.func257.trans (fW Y eU)
 f218:=Tryz.func252.trans (fW Y eU)
 f219:=Tryz.func231.trans (fW Y eU)
 f221:=Tryz.func184.trans (fW Y eU)
 f224:=Tryz.func259.trans (fW Y eU)
 f225:=Tryz.func258.trans (fW Y eU)
 f260:=Tryz.func271.trans (fW Y eU)
 f266:=Tryz.func273.trans (fW Y eU)
 f267:=Tryz.func260.trans (fW Y eU)
 f268:=Tryz.func221.trans (fW Y eU)
 f314:=Tryz.func274.trans (fW Y eU)
 t0:=Tryz.underlying0
 a0:=Tryz.isAgg0
 z0:=Tryz.sizeOf0
 v0:=Tryz.zeroValue0
 t3:=Tryz.underlying3
 a3:=Tryz.isAgg3
 z3:=Tryz.sizeOf3
 v3:=Tryz.zeroValue3
 t4:=Tryz.underlying4
 a4:=Tryz.isAgg4
 z4:=Tryz.sizeOf4
 v4:=Tryz.zeroValue4
 t5:=Tryz.underlying5
 a5:=Tryz.isAgg5
 z5:=Tryz.sizeOf5
 v5:=Tryz.zeroValue5
 t9:=Tryz.underlying9
 a9:=Tryz.isAgg9
 z9:=Tryz.sizeOf9
 v9:=Tryz.zeroValue9
 t21:=Tryz.underlying21
 a21:=Tryz.isAgg21
 z21:=Tryz.sizeOf21
 v21:=Tryz.zeroValue21
 t31:=Tryz.underlying44
 a31:=Tryz.isAgg44
 z31:=Tryz.sizeOf44
 v31:=Tryz.zeroValue44
 t46:=Tryz.underlying254
 a46:=Tryz.isAgg254
 z46:=Tryz.sizeOf254
 v46:=Tryz.zeroValue254
 t51:=Tryz.underlying330
 a51:=Tryz.isAgg330
 z51:=Tryz.sizeOf330
 v51:=Tryz.zeroValue330
 t105:=Tryz.underlying375
 a105:=Tryz.isAgg375
 z105:=Tryz.sizeOf375
 v105:=Tryz.zeroValue375
 t119:=Tryz.underlying408
 a119:=Tryz.isAgg408
 z119:=Tryz.sizeOf408
 t138:=Tryz.underlying410
 a138:=Tryz.isAgg410
 z138:=Tryz.sizeOf410
 v138:=Tryz.zeroValue410
 t139:=Tryz.underlying411
 a139:=Tryz.isAgg411
 z139:=Tryz.sizeOf411
 v139:=Tryz.zeroValue411
 t146:=Tryz.underlying399
 a146:=Tryz.isAgg399
 z146:=Tryz.sizeOf399
 v146:=Tryz.zeroValue399
 g1:=by kernel_rfl
 g3:=by kernel_rfl
 g4:=by kernel_rfl}
open Go.RowKit Go.Lib in
def Tryz.strings_Split(s a:ByteArray)(m:Int)(w:World)(r:s.size<4294967281)(f:w.cell? ⟨5,0,J⟩=Y (.int .i64 m))(K:1<=a.size):
  Calls Tryz.prog 133 #[.string s,.string a] w λe P=>
   e=.returned (.slice (Y ⟨w.heap.size,0,J⟩) (Lib.countB s a+1) (Lib.countB s a+1))/\P=w.alloc (.cells ((Lib.splitB a 0 (Lib.countB s a) s).map Value.string).toArray 9):=Any.strings_Split Tryz.lays146 eU s a m w r f K
open Go.RowKit in
def Tryz.Builder_String_any(B b:Nat)(l:L UInt8)(w:World)(h:Lib.IsBuilder 422 5 B b (Lib.byteCells l) w)(a:B<=w.heap.size):
  Calls Tryz.prog 313 #[.pointer (Y ⟨b,0,J⟩)] w λe P=>e=.returned (.string ⟨l.toArray⟩)/\Below B w P:=Any.Builder_String_any {Tryz.lays156 with} Tryz.Builder_Extra_156 B b l w h a
open Go.RowKit in
def Tryz.Builder_WriteString(B b:Nat)(H:L Value)(s:ByteArray)(w:World)(h:Lib.IsBuilder 422 5 B b H w)(k:O H+s.size<=140737488355328)(a:B<=w.heap.size):
  Calls Tryz.prog 312 #[.pointer (Y ⟨b,0,J⟩),.string s] w λe P=>e=.returned (.tuple #[.int .i64 s.size,.nilIface])/\(Lib.BuilderAt 422 5 B b (.pointer (Y ⟨b,0,J⟩)) (H++Lib.strCells s) P/\Below B w P):=Any.Builder_WriteString {Tryz.lays156 with} Tryz.Builder_Extra_156 B b H s w h k a
def Tryz.slices_Sort_int_none(p:Option Addr)(cap:Nat)(w:World):
  Calls Tryz.prog 169 #[.slice p 0 cap] w λe P=>e=.returned (.tuple #[])/\P=w:=Any.slices_Sort_int_none Tryz.lays189 p cap w
end Go.Proofs
namespace Go.Proofs.YtlkijhibifmamaaGreatDoor
open Go.RowKit
def upd(r:Nat)(es:Array MapEntry)(clock:Nat)(k:Int)(v:Value)(w:World)(hb:w.heap[r]? =Y (.map es clock))(hf:Instr.findNow (.int .i64) (.int .i64 k) es.toList 0=Y J):
  (Instr.mapUpdate 372 (.map (Y r)) (.int .i64 k) v).run Tryz.prog w=.ok () {w with heap:=w.heap.setIfInBounds r (.map (es.push ⟨.int .i64 k,v,clock⟩) (clock+1))}:=by
 have h3:∀w,(Instr.checkKey dU 10000 242 (.int .i64 k)).run Tryz.prog w=.ok () w:=λw=>by kernel_rfl
 simp[Instr.mapUpdate,run_underlying Tryz.underlying372,MapKept.run_getObj_map hb,h3,Instr.findKey,run_underlying Tryz.underlying242,hf,MapKept.run_setObj_map _ hb,Result.andThen]
def Md:ByteArray:=⟨#[109,101,109,60]⟩
def Me:ByteArray:=⟨#[97,114,114,60]⟩
def Ed:Array MapEntry:=#[⟨.int .i64 2,.string Md,0⟩,⟨.int .i64 3,.string Me,1⟩]
def nj(k:Int):ByteArray:=if k=2 then Md else if k=3 then Me else⟨#[]⟩
def look(r:Nat)(k:Int)(w:World)(hb:w.heap[r]? =Y (.map Ed 2)):(Instr.lookup 372 (.map (Y r)) (.int .i64 k) dU).run Tryz.prog w=.ok (.string (nj k)) w:=by
 have h3:∀w,(Instr.checkKey dU 10000 242 (.int .i64 k)).run Tryz.prog w=.ok () w:=λw=>by kernel_rfl
 have hf:Instr.findNow (.int .i64) (.int .i64 k) Ed.toList 0=Y (if k=2 then Y (0,.string Md)else if k=3 then Y (1,.string Me)else J):=by
  by_cases h2:k=2
  .subst h2;rfl
  by_cases h3:k=3
  .subst h3;rfl
  have e2:(k==2)=dU:=by simpa using h2
  have e3:(k==3)=dU:=by simpa using h3
  simp[Ed,Instr.findNow,Instr.sameNow,h2,h3,e2,e3]
 have he:Ed.isEmpty=dU:=Z;unfold nj;simp only[Instr.lookup,gb,run_underlying Tryz.underlying372,MapKept.run_getObj_map hb,Result.andThen,jR,he,h3,Instr.findKey,run_underlying Tryz.underlying242,hf];by_cases h2:k=2
 .simp[h2]
 by_cases h3:k=3
 .simp[h3]
 have hz:∀w,(zeroValue 9).run Tryz.prog w=.ok (.string ⟨#[]⟩) w:=λw=>Tryz.zeroValue9 w;simp[h2,h3,hz,Result.andThen]
def alloc_at(w:World)(o:Obj):(w.alloc o).heap[w.heap.size]? =Y o:=by show(w.heap.push o)[w.heap.size]? =Y o;simp
def RU(r:Nat)(H:Array MapEntry)(W:Nat)(k:Int)(v:Value)(b w:World)(a:w.heap[r]? =Y (.map H W))(g:Instr.findNow (.int .i64) (.int .i64 k) H.toList 0=Y J)(N:Below r b w):
  ∃P,(Instr.mapUpdate 372 (.map (Y r)) (.int .i64 k) v).run Tryz.prog w=.ok () P/\P.heap[r]? =Y (.map (H.push ⟨.int .i64 k,v,W⟩) (W+1))/\Below r b P:=by
 have n:r<w.heap.size:=by
  obtain h|h:=kG r w.heap.size
  .exact h
  simp[pF h]at a
 refine⟨_,upd r H W k v w a g,by simp[n],⟨N.os,N.tape,N.output,by simpa using N.size,λj e=>?_⟩⟩;have:r≠j:=M
 simp only[zG,this,r7];exact N.block j e
def afM(w:World):Calls Tryz.prog 247 #[] w λe a=>e=.returned (.map (Y w.heap.size))/\Below w.heap.size w a/\a.heap[w.heap.size]? =Y (.map Ed 2):=by
 have c:=run_makeMap (P:=Tryz.prog) 372 w;obtain⟨B,d,p,f⟩:=RU w.heap.size #[] 0 2 (.string ⟨#[109,101,109,60]⟩) w (w.alloc (.map #[] 0)) (alloc_at _ _) Z ((Below.refl _ w).alloc (fQ _) _);obtain⟨h,g,t,b⟩:=RU w.heap.size _ _ 3 (.string ⟨#[97,114,114,60]⟩) w B p Z f
 go_enter Tryz.func247,Tryz.ntmps247
 go_wp2
 go_ret
 exact⟨Z,b,t⟩
end Go.Proofs.YtlkijhibifmamaaGreatDoor
namespace Go.Proofs.YtlkijhibifmamaaGreatDoor
open Go.RowKit Go.Sort
def RW{Ta e:TypeId}{p:Value}{w P:World}(h:Lib.BuilderAt Ta e B b p H w)(j:Below w.heap.size w P):Lib.BuilderAt Ta e B b p H P:=by
 let⟨K,v,r,⟨i,E⟩,k⟩:=h
 have c:∀g o,w.heap[g]? =Y o->g<w.heap.size:=λg o F=>by
  obtain h|h:=kG g w.heap.size
  .exact h
  simp[pF h]at F
 refine⟨K,v,(j.block b (c _ _ r)).trans r,⟨i,?_⟩,k⟩;obtain E|⟨g,cap,a,d,t,m,f⟩:=E
 .exact .inl E
 exact .inr ⟨g,cap,a,d,t,(j.block g (c _ _ m)).trans m,f⟩
def Ee{Ta e:TypeId}{w P:World}(h:Lib.IsBuilder Ta e B b H w)(j:Below w.heap.size w P):Lib.IsBuilder Ta e B b H P:=
 h.elim (λh=>.inl (RW h j)) λh=>.inr (RW h j)
def tab_below{P:Program}{k:IntKind}(h:Lib.TabIs P w v k m)(j:Below w.heap.size w a):Lib.TabIs P a v k m:=by
 unfold Lib.TabIs World.var? at h⊢;cases hg:P.globalNamed v with
 |none=>rw[hg]at h;cases h
 |some g=>
 rw[hg]at h;simp only[jm]at h⊢;have:g<w.heap.size:=by
  obtain n|n:=kG g w.heap.size
  .exact n
  rw[pF n]at h;cases h
 rw[j.block g this];exact h
def below_grow(w:World)(n:Nat)(q:Array Obj):Below w.heap.size w (grow (w.drewN n) q):=by refine⟨Z,Z,Z,by simp[grow],λk P=>?_⟩;show(w.heap++q)[k]? =w.heap[k]?;simp[MI P]
def rT{a b c:World}(h:Below a.heap.size a b)(k:Below b.heap.size b c):Below a.heap.size a c:=
 ⟨k.os.trans h.os,k.tape.trans h.tape,k.output.trans h.output,ny h.size k.size,λi C=>(k.block i (lw C h.size)).trans (h.block i C)⟩
def enters{fn:Func}{c:Code}(hf:Tryz.prog.funcs[f]? =Y fn)(hname:(fn.name== "runtime.NumGoroutine")=dU)(hb:fn.body=Y c):∀a w,(callFunc f a).run Tryz.prog w=.ok (.enter f a) w:=Tc
def e247:∀a w,(callFunc 247 a).run Tryz.prog w=.ok (.enter 247 a) w:=enters Tryz.func247 eU Z
def e312:∀a w,(callFunc 312 a).run Tryz.prog w=.ok (.enter 312 a) w:=enters Tryz.func312 eU Z
def e313:∀a w,(callFunc 313 a).run Tryz.prog w=.ok (.enter 313 a) w:=enters Tryz.func313 eU Z
def e220:∀a w,(callFunc 220 a).run Tryz.prog w=.ok (.enter 220 a) w:=enters Tryz.func220 eU Z
def RX(k:Int):(nj k).size<=4:=by
 unfold nj;split
 .decide
 split<;>decide
def textS(l:L UInt8)(s:ByteArray):ByteArray:=⟨(l++s.data.toList++[62]).toArray⟩
def RY(l:L UInt8)(c:UInt8):(⟨l.toArray⟩++⟨#[c]⟩:ByteArray).data.toList=l++[c]:=by show((⟨l.toArray⟩:ByteArray).append ⟨#[c]⟩).data.toList=l++[c];simp
def afN(l:L UInt8):(⟨l.toArray⟩++⟨#[120]⟩:ByteArray).size=O l+1:=by have:=fW O (RY l 120);rw[tu,iN]at this;exact this
def xS(z:Int):ByteArray:=⟨(Lib.itoa z).toArray⟩++⟨#[120]⟩
def Mf(l:L UInt8)(z:Int):Lib.byteCells l++Lib.strCells (⟨(Lib.itoa z).toArray⟩++⟨#[120]⟩)=Lib.byteCells (l++(Lib.itoa z++[120])):=by rw[Lib.strCells_eq,RY,<-Lib.byteCells_append]
def text_eq(l:L UInt8)(s:ByteArray):(⟨l.toArray⟩++s++⟨#[62]⟩:ByteArray)=textS l s:=by refine fW ByteArray.mk (wj ?_);show((⟨l.toArray⟩++s++⟨#[62]⟩:ByteArray)).data.toList= _;simp
def RZ(u:Nat)(Q:u<18446744073709551616):Lib.nDigits u<=20:=by
 obtain c|c:=xN u
 .subst c;decide+kernel
 have:=Lib.numDigits_eq u c Q;split at this<;>omega
def qv(z:Int)(h: -9223372036854775808<=z/\z<=9223372036854775807):O (Lib.itoa z)<=21:=by
 by_cases c:z<0
 .obtain⟨u,rfl⟩:∃u:Nat,z= -(u:Int):=⟨z.natAbs,M⟩;rw[Lib.itoa_neg u M,lV,Lib.decDigits_length];have:=RZ u M;omega
 obtain⟨u,rfl⟩:∃u:Nat,z=u:=⟨z.toNat,M⟩;rw[Lib.itoa_nonneg,Lib.decDigits_length];have:=RZ u M;omega
def Mg{n:Nat}(z:Int)(r: -9223372036854775808<=z/\z<=9223372036854775807)(h:O l<=n):O (l++(Lib.itoa z++[120]))<=n+25:=by have:=qv z r;simp only[iN,lV,uH];omega
def Mh(z:Int)(r: -9223372036854775808<=z/\z<=9223372036854775807)(h:O l<=100):O (Lib.byteCells l)+(xS z).size<=140737488355328:=by have K:=qv z r;have a:(xS z).size=O (Lib.itoa z)+1:=afN _;rw[Lib.byteCells_length,a];omega
def text0(k:Int)(a:Option Addr)(cap:Nat)(s:ByteArray)(w:World)(r:s.size<=1000):
  Calls Tryz.prog 309 #[.int .i64 k,.slice a 0 cap,.string s] w λe P=>e=.returned (.string (textS (nj k).data.toList s))/\Below w.heap.size w P:=by
 refine Iv λhw hfresh hl b0 hsz=>?_
 go_enter Tryz.func309,Tryz.ntmps309
 go_wp2_with fail
 refine hw.mono ?_;rintro e w1 ⟨rfl,b1,g1⟩;refine IA λg1 look1 hb1 b1'=>?_
 go_wp2_with fail
 refine Ir ?_;rintro e w2 ⟨rfl,hb2,b2⟩;refine HZ λB2 hb2 l2=>?_;clear g1 look1 hb1 b0 b1 hw hfresh b1' b2
 go_wp2_with fail
 refine wp_loop_rounds 1 ?_;rw[rounds_succ]
 go_wp2_with fail
 refine(Tryz.Builder_String_any w.heap.size w.heap.size (nj k).data.toList w2 hb2 B2.size).mono ?_;rintro e c ⟨rfl,bz⟩;have b:=B2.trans bz
 go_wp2
 all_goals(try(exfalso;omega))
 go_ret
 refine⟨?_,b⟩;rw[<-text_eq];rfl
def text1(k:Int)(eC off:Nat)(z0:Int)(cap:Nat)(s:ByteArray)(w:World)(r:s.size<=1000)(r0: -9223372036854775808<=z0/\z0<=9223372036854775807)(c0:w.cell? ⟨eC,off+0,J⟩=Y (.int .i64 z0))(hblk:eC<w.heap.size)(htab:Lib.TabIs Tryz.prog w "internal/strconv.uint64pow10" .u64 Lib.pow10Tab):
  Calls Tryz.prog 309 #[.int .i64 k,.slice (Y ⟨eC,off,J⟩) 1 cap,.string s] w λe P=>e=.returned (.string (textS ((nj k).data.toList++(Lib.itoa z0++[120])) s))/\Below w.heap.size w P:=by
 refine Iv λhw hfresh hl b0 hsz=>?_
 go_enter Tryz.func309,Tryz.ntmps309
 go_wp2_with fail
 refine hw.mono ?_;rintro e w1 ⟨rfl,b1,g1⟩;refine IA λg1 look1 hb1 b1'=>?_
 go_wp2_with fail
 refine Ir ?_;rintro e w2 ⟨rfl,hb2,b2⟩;refine HZ λB2 hb2 l2=>?_;clear g1 look1 hb1 b0 b1 hw hfresh b1' b2
 go_wp2_with fail
 refine wp_loop_rounds 2 ?_;refine M5 λc0' t0=>?_
 go_wp2_with fail
 refine(Tryz.strconv_Itoa z0 r0.1 r0.2 w2 t0).mono ?_;rintro e w3 ⟨rfl,n0,os0,ew0⟩;refine NF λbg0 hb3 B3=>?_;clear c0' t0 ew0;refine Nk λq0=>?_
 go_wp2_with fail
 refine MV λwr=>?_;clear wr;rintro e w4 ⟨rfl,hb4,b4⟩;refine M3 λB4 hb4 l4=>?_;clear hb3 B3 bg0 b4
 go_wp2_with fail
 rw[rounds_succ]
 go_wp2_with fail
 refine(Tryz.Builder_String_any w.heap.size w.heap.size ((nj k).data.toList++(Lib.itoa z0++[120])) w4 hb4 B4.size).mono ?_;rintro e a ⟨rfl,bz⟩;have Bz:=B4.trans bz;have b:=qv z0 r0
 go_wp2
 all_goals(try(exfalso;omega))
 go_ret
 exact Nl
def afO(k:Int)(eC off:Nat)(z0 z1:Int)(cap:Nat)(s:ByteArray)(w:World)(d:s.size<=1000)(r0: -9223372036854775808<=z0/\z0<=9223372036854775807)(c0:w.cell? ⟨eC,off+0,J⟩=Y (.int .i64 z0))(r1: -9223372036854775808<=z1/\z1<=9223372036854775807)(N:w.cell? ⟨eC,off+1,J⟩=Y (.int .i64 z1))(hblk:eC<w.heap.size)(htab:Lib.TabIs Tryz.prog w "internal/strconv.uint64pow10" .u64 Lib.pow10Tab):
  Calls Tryz.prog 309 #[.int .i64 k,.slice (Y ⟨eC,off,J⟩) 2 cap,.string s] w λe P=>e=.returned (.string (textS (((nj k).data.toList++(Lib.itoa z0++[120]))++(Lib.itoa z1++[120])) s))/\Below w.heap.size w P:=by
 refine Iv λhw hfresh hl b0 hsz=>?_
 go_enter Tryz.func309,Tryz.ntmps309
 go_wp2_with fail
 refine hw.mono ?_;rintro e w1 ⟨rfl,b1,g1⟩;refine IA λg1 look1 hb1 b1'=>?_
 go_wp2_with fail
 refine Ir ?_;rintro e w2 ⟨rfl,hb2,b2⟩;refine HZ λB2 hb2 l2=>?_;clear g1 look1 hb1 b0 b1 hw hfresh b1' b2
 go_wp2_with fail
 refine wp_loop_rounds 3 ?_;refine M5 λc0' t0=>?_
 go_wp2_with fail
 refine(Tryz.strconv_Itoa z0 r0.1 r0.2 w2 t0).mono ?_;rintro e w3 ⟨rfl,n0,os0,ew0⟩;refine NF λbg0 hb3 B3=>?_;clear c0' t0 ew0;refine Nk λq0=>?_
 go_wp2_with fail
 refine MV λwr=>?_;clear wr;rintro e w4 ⟨rfl,hb4,b4⟩;refine M3 λB4 hb4 l4=>?_;clear hb3 B3 bg0 b4
 go_wp2_with fail
 have c:w4.cell? ⟨eC,off+1,J⟩=Y (.int .i64 z1):=(B4.cell hblk).trans N;have r:=tab_below htab B4;rw[rounds_succ]
 go_wp2_with fail
 refine(Tryz.strconv_Itoa z1 r1.1 r1.2 w4 r).mono ?_;rintro e w5 ⟨rfl,n1,os1,b⟩;have a:=below_grow w4 n1 os1;rw[<-b]at a;have hb5:=Ee hb4 a;have B5:=rT B4 a;clear c r b;have f:¬9223372036854775807<O (Lib.itoa z1)+1:=by have:=qv z1 r1;omega
 go_wp2_with fail
 refine Wl λwr=>?_;clear wr;rintro e w6 ⟨rfl,hb6,b6⟩;refine Ud λB6 hb6 l6=>?_;clear hb5 B5 a b6
 go_wp2_with fail
 rw[rounds_succ]
 go_wp2_with fail
 refine(Tryz.Builder_String_any w.heap.size w.heap.size (((nj k).data.toList++(Lib.itoa z0++[120]))++(Lib.itoa z1++[120])) w6 hb6 B6.size).mono ?_;rintro e g ⟨rfl,bz⟩;have Bz:=B6.trans bz;have h:=qv z0 r0;have i:=qv z1 r1
 go_wp2
 all_goals(try(exfalso;omega))
 go_ret
 exact Nl
def afP(k:Int)(eC off:Nat)(z0 z1 a:Int)(cap:Nat)(s:ByteArray)(w:World)(u:s.size<=1000)(r0: -9223372036854775808<=z0/\z0<=9223372036854775807)(c0:w.cell? ⟨eC,off+0,J⟩=Y (.int .i64 z0))(r1: -9223372036854775808<=z1/\z1<=9223372036854775807)(N:w.cell? ⟨eC,off+1,J⟩=Y (.int .i64 z1))(f: -9223372036854775808<=a/\a<=9223372036854775807)(B:w.cell? ⟨eC,off+2,J⟩=Y (.int .i64 a))(hblk:eC<w.heap.size)(htab:Lib.TabIs Tryz.prog w "internal/strconv.uint64pow10" .u64 Lib.pow10Tab):
  Calls Tryz.prog 309 #[.int .i64 k,.slice (Y ⟨eC,off,J⟩) 3 cap,.string s] w λe P=>e=.returned (.string (textS ((((nj k).data.toList++(Lib.itoa z0++[120]))++(Lib.itoa z1++[120]))++(Lib.itoa a++[120])) s))/\Below w.heap.size w P:=by
 refine Iv λhw hfresh hl b0 hsz=>?_
 go_enter Tryz.func309,Tryz.ntmps309
 go_wp2_with fail
 refine hw.mono ?_;rintro e w1 ⟨rfl,b1,g1⟩;refine IA λg1 look1 hb1 b1'=>?_
 go_wp2_with fail
 refine Ir ?_;rintro e w2 ⟨rfl,hb2,b2⟩;refine HZ λB2 hb2 l2=>?_;clear g1 look1 hb1 b0 b1 hw hfresh b1' b2
 go_wp2_with fail
 refine wp_loop_rounds 4 ?_;refine M5 λc0' t0=>?_
 go_wp2_with fail
 refine(Tryz.strconv_Itoa z0 r0.1 r0.2 w2 t0).mono ?_;rintro e w3 ⟨rfl,n0,os0,ew0⟩;refine NF λbg0 hb3 B3=>?_;clear c0' t0 ew0;refine Nk λq0=>?_
 go_wp2_with fail
 refine MV λwr=>?_;clear wr;rintro e w4 ⟨rfl,hb4,b4⟩;refine M3 λB4 hb4 l4=>?_;clear hb3 B3 bg0 b4
 go_wp2_with fail
 have l:w4.cell? ⟨eC,off+1,J⟩=Y (.int .i64 z1):=(B4.cell hblk).trans N;have r:=tab_below htab B4;rw[rounds_succ]
 go_wp2_with fail
 refine(Tryz.strconv_Itoa z1 r1.1 r1.2 w4 r).mono ?_;rintro e w5 ⟨rfl,n1,os1,g⟩;have b:=below_grow w4 n1 os1;rw[<-g]at b;have hb5:=Ee hb4 b;have B5:=rT B4 b;clear l r g;have x:¬9223372036854775807<O (Lib.itoa z1)+1:=by have:=qv z1 r1;omega
 go_wp2_with fail
 refine Wl λwr=>?_;clear wr;rintro e w6 ⟨rfl,hb6,b6⟩;refine Ud λB6 hb6 l6=>?_;clear hb5 B5 b b6
 go_wp2_with fail
 have m:w6.cell? ⟨eC,off+2,J⟩=Y (.int .i64 a):=(B6.cell hblk).trans B;have p:=tab_below htab B6;rw[rounds_succ]
 go_wp2_with fail
 refine(Tryz.strconv_Itoa a f.1 f.2 w6 p).mono ?_;rintro e t ⟨rfl,n2,os2,h⟩;have c:=below_grow w6 n2 os2;rw[<-h]at c;have i:=Ee hb6 c;have j:=rT B6 c;clear m p h;have R:¬9223372036854775807<O (Lib.itoa a)+1:=by have:=qv a f;omega
 go_wp2_with fail
 have wr:=Tryz.Builder_WriteString w.heap.size w.heap.size _ (xS a) t i (Mh a f M) j.size;unfold xS at wr;refine wr.mono ?_;clear wr;rintro e q ⟨rfl,d,o⟩;rw[Mf]at d;have n:=j.trans o;have d:Lib.IsBuilder 422 5 w.heap.size w.heap.size _ q:=.inr d;have v:O ((((nj k).data.toList++(Lib.itoa z0++[120]))++(Lib.itoa z1++[120]))++(Lib.itoa a++[120]))<=79:=Mg a f l6;clear i j c o
 go_wp2_with fail
 rw[rounds_succ]
 go_wp2_with fail
 refine(Tryz.Builder_String_any w.heap.size w.heap.size ((((nj k).data.toList++(Lib.itoa z0++[120]))++(Lib.itoa z1++[120]))++(Lib.itoa a++[120])) q d n.size).mono ?_;rintro e y ⟨rfl,bz⟩;have Bz:=n.trans bz;have z:=qv z0 r0;have C:=qv z1 r1;have D:=qv a f
 go_wp2
 all_goals(try(exfalso;omega))
 go_ret
 exact Nl
end Go.Proofs.YtlkijhibifmamaaGreatDoor
namespace Go.As
open Go.RowKit
section
variable{P:Program}{G:ez}{B:Nat→Prop}{H:eM}{w w':World}{X:Kx}
def eL.lib{Q:A->eM->Prop}(b:∀a w,(callFunc f a).run P w=.ok (.enter f a) w)
  (h:∀(B:Nat->Prop)(w:World)(X:Kx)(s:Array Value),fJ B G H w X->fR w X K s.toList->Calls P f s w λe w'=>∃v,e=.returned v/\FinA G B w X Q v w'):eL P G f K H Q:=by
 intro B w X s c n;rw[b];exact callsIn_wide.2 ((h B w X s c n).mono λe w' ⟨v,F,g⟩=>by subst F;exact g)
def HF(K:fJ B G H w X)(j:Go.RowKit.Below w.heap.size w w'):fL B w X w' X/\fJ B G H w' X:=by
 have cell:∀c i,c<w.heap.size->w'.cell? ⟨c,i,J⟩=w.cell? ⟨c,i,J⟩:=λc i a=>by simp only[World.cell?,j.block c a]
 have b:fL B w X w' X:=by
  refine⟨⟨j.os,j.tape,j.output,j.size,λk d=>j.block k (K.base k d)⟩,λ_ _ h=>h,λ_ _ h=>h,λ_=>fQ _,λc i C=>cell c i (K.kS c M),λc i C=>?_,λ_ _=>Z,λ_ _ h=>h⟩;have:c<w.heap.size:=by
   obtain h|h:=kG c w.heap.size
   .exact h
   simp[World.cell?,pF h]at C
  rw[cell c i this];exact C
 exact⟨b,K.keep b (λp o c _ a=>⟨j.block c (K.room p c a),Z⟩) (λ_ _ h=>h) (λ_ _ h=>h) λc a=>lw (K.kS c a) j.size⟩
def Mi(w:World)(o:Obj):Go.RowKit.Below w.heap.size w (w.alloc o):=
 (Go.RowKit.Below.refl _ w).alloc (fQ _) o
def rT{a b c:World}(h:Go.RowKit.Below a.heap.size a b)(k:Go.RowKit.Below b.heap.size b c):Go.RowKit.Below a.heap.size a c:=
 ⟨k.os.trans h.os,k.tape.trans h.tape,k.output.trans h.output,ny h.size k.size,λi C=>(k.block i (lw C h.size)).trans (h.block i C)⟩
def R0(K:fJ B G H w X){p:S}{c x:A}(hp:H.ep.dZ p=Y (.dY [c]))(l:X.ρ p=Y b)(r:eQ w X x v):
  fL B w X (w.setCell ⟨b,0,J⟩ v) X/\fJ B G ⟨H.ep.set p (Y (.dY [x])),H.dX⟩ (w.setCell ⟨b,0,J⟩ v) X:=by
 obtain⟨s,o,t,⟨eE,e,fz,m,g,k,u⟩,y,q⟩:=K.obj p _ hp;obtain rfl:=gu (l.symm.trans o);have z:X.U b=0:=q py;have C:0<eE.size:=k;have f:nS b w (w.setCell ⟨b,0,J⟩ v):=⟨Z,Z,Z,ei,λd a=>by simp only[World.setCell,Ci];rw[gj (λe=>a e.symm)]⟩
 have h:(w.setCell ⟨b,0,J⟩ v).heap[b]? =Y (.cells (eE.setIfInBounds 0 v) e fz):=by simp only[World.setCell,Ci,oH,m,jb];rfl
 have j:fL B w X (w.setCell ⟨b,0,J⟩ v) X:=Jy f t m h ei (λi n=>M);refine⟨j,K.put j hp l f.other ⟨_,e,fz,h,g,by simpa using k,λi n=>?_⟩ py py⟩
 match i,n with
 |0,_=>
 have:(eE.setIfInBounds 0 v).getD 0 undef=v:=by simp[C]
 rw[this];exact r.mono j
def lU(K:fJ B G H w X){p:S}{c:A}(hp:H.ep.dZ p=Y (.dY [c]))(f:X.ρ p=Y b):∃i,w.cell? ⟨b,0,J⟩=Y i/\w.frozen? ⟨b,0,J⟩=dU:=by
 obtain⟨h,d,t,⟨eE,e,fz,m,g,C,j⟩,k,l⟩:=K.obj p _ hp;obtain rfl:=gu (f.symm.trans d);refine⟨eE[0]'C,by rw[mj m];exact sg C,?_⟩;simp only[World.frozen?,m];cases a:(decide (fz.1<=0)&&decide (0<fz.2))
 .rfl
 simp at a;omega
def Ef(G:ez)(w:World):Prop:=∀g o,G.raw g=Y o->w.heap[g]? =Y o
structure rU (G:ez):Prop where
 err:∀w:World,Ef G w→w.cell? ⟨0,0,none⟩=some (.iface 257 (.agg #[.pointer (some ⟨11,59,none⟩)]))
 max:∃m:Int,∀w:World,Ef G w→w.cell? ⟨5,0,none⟩=some (.int .i64 m)
 pow:∀w:World,Ef G w→Lib.TabIs Go.Proofs.Tryz.prog w "internal/strconv.uint64pow10" .u64 Lib.pow10Tab
def fJ.fits(K:fJ B G H w X):Ef G w:=λg o h=>(K.gX.raw g o h).2
def R9{t:S}{c x:A}(b:rU G)(K:fJ B G H w X)(j:H.ep.dZ t=Y (.dY [c]))(g:X.ρ t=Y d)(p:eQ w X x (.pointer (Y a))):
  Calls Go.Proofs.Tryz.prog 28 #[.iface 106 (.pointer (Y a)),.iface 108 (.pointer (Y ⟨d,0,J⟩))] w λe w'=>∃v,e=.returned v/\FinA G B w X (λr D=>r=.bool dT/\D=⟨H.ep.set t (Y (.dY [x])),H.dX⟩) v w':=by
 obtain⟨i,m,n⟩:=lU K j g;refine(Proofs.YtlkijhibifmamaaGreatDoor.afo a ⟨d,0,J⟩ i w (b.err w K.fits) m n).mono λe w' ⟨F,N⟩=>⟨_,F,?_⟩
 have o:Go.RowKit.Below w.heap.size w ((Proofs.YtlkijhibifmamaaGreatDoor.Mb w ⟨d,0,J⟩).alloc (.cells #[.pointer (Y a)] 106)):=
  rT (rT (rT (Mi w _) (Mi _ _)) (Mi _ _)) (Mi _ _)
 obtain⟨f,k⟩:=HF K o;obtain⟨h,l⟩:=R0 k j g (p.mono f);subst N;exact⟨.bool dT,_,X,⟨Z,Z⟩,f.trans h,l,.bool dT⟩
def Sb{t:S}{c:A}{d b o:Nat}(a:rU G)(K:fJ B G H w X)(g:H.ep.dZ t=Y (.dY [c]))(f:X.ρ t=Y d)(j:w.cell? ⟨b,o+1,J⟩=Y (.iface 122 (.int .i64 z))):
  Calls Go.Proofs.Tryz.prog 28 #[.iface 106 (.pointer (Y ⟨b,o,J⟩)),.iface 123 (.pointer (Y ⟨d,0,J⟩))] w λe w'=>∃v,e=.returned v/\FinA G B w X (λr D=>r=.bool dT/\D=⟨H.ep.set t (Y (.dY [.int .i64 z])),H.dX⟩) v w':=by
 obtain⟨i,n,p⟩:=lU K g f;refine(Proofs.YtlkijhibifmamaaGreatDoor.afJ b o z ⟨d,0,J⟩ i w (a.err w K.fits) j n p).mono λe w' ⟨F,N⟩=>⟨_,F,?_⟩
 have j:Go.RowKit.Below w.heap.size w ((Proofs.YtlkijhibifmamaaGreatDoor.Mc w ⟨d,0,J⟩).alloc (.cells #[.int .i64 z] 122)):=
  rT (rT (rT (Mi w _) (Mi _ _)) (Mi _ _)) (Mi _ _)
 obtain⟨h,l⟩:=HF K j;obtain⟨k,m⟩:=R0 l g f (x:=.int .i64 z) (.int _ _);subst N;exact⟨.bool dT,_,X,⟨Z,Z⟩,h.trans k,m,.bool dT⟩
def afQ{fn:Func}{c:Code}(hf:P.funcs[f]? =Y fn)(hname:(fn.name== "runtime.NumGoroutine")=dU)(hb:fn.body=Y c):∀a w,(callFunc f a).run P w=.ok (.enter f a) w:=Tc
def HG:∀a w,(callFunc 28 a).run Go.Proofs.Tryz.prog w=.ok (.enter 28 a) w:=afQ Go.Proofs.Tryz.func28 eU Z
def afR(l:rU G):uu Go.Proofs.Tryz.prog G:=by
 constructor
 .intro H t p c o e x hp j;refine eL.lib HG λB w X s K n=>?_
  let⟨z,N,hc1,i,q⟩:=n.Q
  obtain⟨D,E,rfl,k,hus'⟩:=q.Q;obtain rfl:=hus'.lZ;cases i with
  |iface _ _ z i=>
  cases k with
  |iface _ _ D k=>
  cases i with
  |ea _ _ f v=>
  cases k with
  |ea _ _ u r=>have a:s=#[.iface 106 (.pointer (Y ⟨f,0,J⟩)),.iface 108 (.pointer (Y ⟨u,0,J⟩))]:=r9;subst a;exact R9 l K j r (.ea p 0 f v)
 intro H t p c o e x hp j;refine eL.lib HG λB w X s K n=>?_
 let⟨z,N,hc1,i,q⟩:=n.Q
 obtain⟨D,E,rfl,k,hus'⟩:=q.Q;obtain rfl:=hus'.lZ;cases i with
 |iface _ _ z i=>
 cases k with
 |iface _ _ D k=>
 cases i with
 |ea _ _ f v=>
 cases k with
 |ea _ _ u r=>
 have a:s=#[.iface 106 (.pointer (Y ⟨f,0,J⟩)),.iface 123 (.pointer (Y ⟨u,0,J⟩))]:=r9;subst a;refine Sb l K j r ?_;obtain⟨Q,F,R,⟨eE,ty,fz,m,g,C,I⟩,U,W⟩:=K.obj p _ hp;obtain rfl:=gu (v.symm.trans F);have h:=I 1 ei;have b:1<eE.size:=C;rw[mj m,lg,sg b];have d:eE.getD 1 undef=eE[1]:=by simp[b]
 rw[d]at h;generalize eE[1]=y at h;cases h with
 |iface _ _ y h=>cases h;rfl
def afS(i:rU G):uk Go.Proofs.Tryz.prog G:=by
 constructor
 .intro m nx t p c e hp j;refine eL.lib HG λB w X s K n=>?_
  let⟨q,I,hc1,d,k⟩:=n.Q
  obtain⟨u,x,rfl,g,hus'⟩:=k.Q;obtain rfl:=hus'.lZ;cases d with
  |iface _ _ q d=>
  cases g with
  |iface _ _ u g=>
  have v:=d;cases d with
  |fF _ _ f o D F C a=>
  cases g with
  |ea _ _ l r=>have b:s=#[.iface 106 (.pointer (Y ⟨f,o+0,J⟩)),.iface 108 (.pointer (Y ⟨l,0,J⟩))]:=r9;subst b;exact R9 i K j r v
 intro m nx t p c e hp j;refine eL.lib HG λB w X s K n=>?_
 let⟨q,I,hc1,d,k⟩:=n.Q
 obtain⟨u,x,rfl,g,hus'⟩:=k.Q;obtain rfl:=hus'.lZ;cases d with
 |iface _ _ q d=>
 cases g with
 |iface _ _ u g=>
 cases d with
 |fF _ _ f o D F C a=>
 cases g with
 |ea _ _ l r=>
 have b:s=#[.iface 106 (.pointer (Y ⟨f,o+0,J⟩)),.iface 123 (.pointer (Y ⟨l,0,J⟩))]:=r9;subst b;refine Sb i K j r ?_;have E:=C 1 ei;have z:=a 1 ei;rw[zu,E];generalize D 1=y at z;cases z with
 |iface _ _ y h=>cases h;rfl
end
section
variable{G:ez}{B:Nat→Prop}{H:eM}{w w':World}{X:Kx}
def kI(l:L UInt8):L Nat:=l.map UInt8.toNat
def Sc(w:World)(X:Kx)(l:L UInt8):eQ w X (.J (kI l)) (.string ⟨l.toArray⟩):=.J _ _ (by rw[kI])
def Mj{Q:A->eM->Prop}(K:fJ B G H w X)(j:Go.RowKit.Below w.heap.size w w')(c:Q r H)(a:eQ w X r v):FinA G B w X Q v w':=by obtain⟨b,t⟩:=HF K j;exact⟨r,H,X,c,b,t,a.mono b⟩
def afT(R:rU G)(z:Int)(c: -9223372036854775808<=z)(K:z<=9223372036854775807):f9 Go.Proofs.Tryz.prog G 220 [.int .i64 z] λv=>∃s:L Nat,O s<=32/\v=.J s:=by
 refine⟨.J (kI (Lib.itoa z)),⟨_,?_,Z⟩,λH=>eL.lib Proofs.YtlkijhibifmamaaGreatDoor.e220 λB w X b g n=>?_⟩
 .have:=Proofs.YtlkijhibifmamaaGreatDoor.qv z ⟨c,K⟩;rw[kI,jH];omega
 let⟨h,P,hc1,d,f⟩:=n.Q
 obtain rfl:=f.lZ;cases d;have a:b=#[.int .i64 z]:=r9;subst a;refine(Go.Proofs.Tryz.strconv_Itoa z c K w (R.pow w g.fits)).mono λe w' ⟨F,k,q,N⟩=>⟨_,F,?_⟩
 subst N;exact Mj g (Proofs.YtlkijhibifmamaaGreatDoor.below_grow w k q) ⟨Z,Z⟩ (Sc _ _ _)
def e309:∀a w,(callFunc 309 a).run Go.Proofs.Tryz.prog w=.ok (.enter 309 a) w:=Proofs.YtlkijhibifmamaaGreatDoor.enters Go.Proofs.Tryz.func309 eU Z
def xk:L A->L UInt8
 |[]=>[]
 |.int .i64 z::l=>(Lib.itoa z++[120])++xk l
 | _ ::l=>xk l
def HH(k:Int)(a:L A)(s:L Nat):L Nat:=kI (Proofs.YtlkijhibifmamaaGreatDoor.nj k).data.toList++kI (xk a)++s++[62]
def afU(w:World)(X:Kx)(l:L UInt8)(b:ByteArray):eQ w X (.J (kI l++b.data.toList.map UInt8.toNat++[62])) (.string (Proofs.YtlkijhibifmamaaGreatDoor.textS l b)):=
 .J _ _ (by simp[Proofs.YtlkijhibifmamaaGreatDoor.textS,kI])
def afV(R:rU G)(k:Int)(v:A)(cs:List A)(s:List Nat)(hv:fC cs v)(hc:F9 cs)(hl:cs.length<=3)(hs:s.length<=40):f9 Go.Proofs.Tryz.prog G 309 [.int .i64 k,v,.J s] λr=>∃t:List Nat,r=.J t/\t.length<=eI:=by
 have hM:eI=1048576:=rfl;refine⟨.J (HH k cs s),⟨_,rfl,?_⟩,λH=>eL.lib e309 λB w X cargs hH hr=>?_⟩
 .have key:∀cs:List A,F9 cs->(xk cs).length<=25*cs.length:=by
   intro cs;induction cs with
   |nil=>intro _;simp[xk]
   |cons c cs ih=>intro h;obtain⟨z,rfl,h1⟩:=h c mw;have h2:=ih λx hx=>h x (mL _ hx);have h3:=Proofs.YtlkijhibifmamaaGreatDoor.qv z h1;simp only[xk,iN,lV,uH];omega
  have h1:=key cs hc;have h2:(Proofs.YtlkijhibifmamaaGreatDoor.nj k).data.toList.length<=4:=Proofs.YtlkijhibifmamaaGreatDoor.RX k;simp only[HH,kI,iN,jH,lV,uH];omega
 obtain⟨u1,us,hc1,hu1,hus⟩:=hr.Q;obtain⟨u2,us',rfl,hu2,hus'⟩:=hus.Q;obtain⟨u3,us'',rfl,hu3,hus''⟩:=hus'.Q;obtain rfl:=hus''.lZ;cases hu1;obtain⟨b,rfl,hb⟩:=mn hu3;have hbs:b.size<=1000:=by have:=fW List.length hb;rw[jH,tu]at this;show b.data.size<=1000;omega
 have hcargs:cargs=#[.int .i64 k,u2,.string b]:=by apply wj;simpa using hc1
 subst hcargs;have htab:=R.pow w hH.fits;have fin:∀l:List UInt8,kI l=kI (Proofs.YtlkijhibifmamaaGreatDoor.nj k).data.toList++kI (xk cs)->∀w',Go.RowKit.Below w.heap.size w w'->FinA G B w X (λr H'=>r=.J (HH k cs s)/\H'=H) (.string (Proofs.YtlkijhibifmamaaGreatDoor.textS l b)) w':=λl hl w' hw=>by have:=afU w X l b;rw[hb,hl]at this;exact Mj hH hw ⟨rfl,rfl⟩ this
 have nil:∀(a:Option Addr)(cap:Nat),cs=[]->Calls Go.Proofs.Tryz.prog 309 #[.int .i64 k,.slice a 0 cap,.string b] w λe w'=>∃v,e=.returned v/\FinA G B w X (λr H'=>r=.J (HH k cs s)/\H'=H) v w':=λa cap hcs=>by subst hcs;exact(Proofs.YtlkijhibifmamaaGreatDoor.text0 k a cap b w hbs).mono λe w' ⟨he,hw⟩=>⟨_,he,fin _ (by simp[xk,kI]) w' hw⟩
 obtain⟨rfl,hn,rfl⟩|⟨t,ht,rfl,hn⟩:=hv
 .cases hu2;exact nil J 0 rfl
 obtain⟨c,o,cap,rfl,hU,hcc,h1,hcap,hsz,htok⟩|⟨a,cap,rfl,h1,h2,_⟩:=yc hu2
 .have hlt:0<cs.length->c<w.heap.size:=λh=>hH.kS c M;have dZ:∀i (h:i<cs.length) z,cs[i]=.int .i64 z->w.cell? ⟨c,o+i,J⟩=Y (.int .i64 z):=λi h z e=>by obtain⟨y,h1,h2⟩:=hcc i h;rw[e]at h2;cases h2;exact h1
  match cs,hc,hl,dZ with
  |[],_,_,_=>exact nil _ _ rfl
  |[a0],hc,_,dZ=>obtain⟨z0,rfl,r0⟩:=hc a0 (by simp);exact(Proofs.YtlkijhibifmamaaGreatDoor.text1 k c o z0 cap b w hbs r0 (dZ 0 (by simp) _ rfl) (hlt (by simp)) htab).mono λe w' ⟨he,hw⟩=>⟨_,he,fin _ (by simp[xk,kI]) w' hw⟩
  |[a0,a1],hc,_,dZ=>obtain⟨z0,rfl,r0⟩:=hc a0 (by simp);obtain⟨z1,rfl,r1⟩:=hc a1 (by simp);exact(Proofs.YtlkijhibifmamaaGreatDoor.afO k c o z0 z1 cap b w hbs r0 (dZ 0 (by simp) _ rfl) r1 (dZ 1 (by simp) _ rfl) (hlt (by simp)) htab).mono λe w' ⟨he,hw⟩=>⟨_,he,fin _ (by simp[xk,kI]) w' hw⟩
  |[a0,a1,a2],hc,_,dZ=>obtain⟨z0,rfl,r0⟩:=hc a0 (by simp);obtain⟨z1,rfl,r1⟩:=hc a1 (by simp);obtain⟨z2,rfl,r2⟩:=hc a2 (by simp);exact(Proofs.YtlkijhibifmamaaGreatDoor.afP k c o z0 z1 z2 cap b w hbs r0 (dZ 0 (by simp) _ rfl) r1 (dZ 1 (by simp) _ rfl) r2 (dZ 2 (by simp) _ rfl) (hlt (by simp)) htab).mono λe w' ⟨he,hw⟩=>⟨_,he,fin _ (by simp[xk,kI]) w' hw⟩
  | _ :: _ :: _ :: _ :: _,_,hl,_=>simp at hl
 subst h2;exact nil _ _ rfl
end
section
variable{G:ez}{B:Nat→Prop}{H:eM}{w w':World}{X:Kx}
def zo(s:L Nat):L (L Nat)->L Nat
 |[]=>[]
 |y::r=>s++y++zo s r
def xl(s:L Nat):L (L Nat)->L Nat
 |[]=>[]
 |x::r=>x++zo s r
def afW{s:L Nat}{k:Nat}:∀{r:L (L Nat)},(∀x∈r,O x<=k)->O (zo s r)<=O r*(O s+k):=by
 intro r;induction r with
 |nil=>intro _;simp[zo]
 |cons y r i=>intro h;have K:=h y mw;have a:=i λx v=>h x (mL _ v);simp only[zo,iN,lV,zN];omega
def afX(a:L UInt8):∀r:L (L UInt8),kI (Lib.joinTail a r)=zo (kI a) (r.map kI):=by
 intro r;induction r with
 |nil=>rfl
 |cons y r i=>
 have:Lib.joinTail a (y::r)=a++y++Lib.joinTail a r:=by simp[Lib.joinTail]
 rw[this];simp only[jL,zo,<-i];simp[kI]
def afY(a:L UInt8)(l:L (L UInt8)):kI (Lib.join l a)=xl (kI a) (l.map kI):=by
 cases l with
 |nil=>rfl
 |cons x r=>rw[Lib.join_cons,jL,xl,<-afX];simp[kI]
def xm:A->L Nat
 |.J s=>s
 | _=>[]
def HI:Value->ByteArray
 |.string b=>b
 | _=>⟨#[]⟩
def e302:∀a w,(callFunc 302 a).run Go.Proofs.Tryz.prog w=.ok (.enter 302 a) w:=Proofs.YtlkijhibifmamaaGreatDoor.enters Go.Proofs.Tryz.func302 eU Z
def afZ(v:A)(f:L A)(s:L Nat)(hv:fC f v)(R:iL f)(hl:O f<=100)(hs:O s<=10):f9 Go.Proofs.Tryz.prog G 302 [v,.J s] λr=>∃t:L Nat,r=.J t/\O t<=1099511627776:=by
 refine gT λhM=>?_;have hlen:O (xl s (f.map xm))<=100*1048600:=by
  have K:∀x∈f.map xm,O x<=1048576:=λx hx'=>by obtain⟨y,hy,rfl⟩:=gS.1 hx';obtain⟨t,rfl,ht⟩:=R y hy;exact ht
  generalize hz:f.map xm=ys at K;have P:O ys=O f:=by rw[<-hz,jH]
  cases ys with
  |nil=>simp[xl]
  |cons y r=>have k:=K y mw;have h3:=afW (s:=s) λx R=>K x (mL _ R);simp only[xl,iN];have h4:O r*(O s+1048576)<=99*1048586:=Nat.mul_le_mul (by simp at P;omega) M;omega
 refine⟨.J (xl s (f.map xm)),⟨_,Z,M⟩,λH=>eL.lib e302 λB w X q W Q=>?_⟩
 let⟨u1,us,hc1,F,hus⟩:=Q.Q
 obtain⟨u2,us',rfl,hu2,hus'⟩:=hus.Q;obtain rfl:=hus'.lZ;obtain⟨b,rfl,hb⟩:=mn hu2;have l:q=#[u1,.string b]:=r9;subst l;have nil:∀(a:Option Addr)(cap:Nat),f=[]->Calls Go.Proofs.Tryz.prog 302 #[.slice a 0 cap,.string b] w λe w'=>∃v,e=.returned v/\FinA G B w X (λr H'=>r=.J (xl s (f.map xm))/\H'=H) v w':=λa cap C=>by
  subst C;refine(Go.Proofs.Tryz.strings_Join_none a cap b w).mono λe w' ⟨he,hw⟩=>⟨_,he,?_⟩
  subst hw;exact⟨_,H,X,⟨Z,Z⟩,fL.refl _ _ _,W,.J _ _ Z⟩
 obtain⟨rfl,hn,rfl⟩|⟨t,ht,rfl,hn⟩:=hv
 .cases F;exact nil J 0 Z
 obtain⟨c,o,cap,rfl,hU,hcc0,K,hcap,hsz,htok⟩|⟨a,cap,rfl,K,k,_⟩:=yc F
 case inr=>
  subst k;exact nil _ _ Z
 obtain⟨N,I⟩:=xM (r:=λ(i:Nat)(y:Value)=>∀h:i<O f,w.cell? ⟨c,o+i,J⟩=Y y/\eQ w X f[i] y) λi=>by
  by_cases h:i<O f
  .obtain⟨y,K,k⟩:=hcc0 i h;exact⟨y,λ_=>⟨K,k⟩⟩
  exact⟨undef,λn=>absurd n h⟩
 have hcc:=λi h=>(I i h).1;have hvv:=λi h=>(I i h).2;obtain P|P:=xN (O f)
 .have C:f=[]:=pG P;subst C;exact nil _ _ Z
 have hlt:c<w.heap.size:=W.kS c M;obtain⟨g,u⟩:∃g:L ByteArray,g=(List.range (O f)).map λi=>HI (N i):=⟨_,Z⟩;have D:O g=O f:=by rw[u];simp
 have p:∀i (h:i<O f),N i=.string (HI (N i))/\kI (HI (N i)).data.toList=xm f[i]:=λi h=>by obtain⟨s',d,_⟩:=R f[i] (fB h);have k:=hvv i h;rw[d]at k⊢;obtain⟨b',U,h3⟩:=mn k;rw[U];exact⟨Z,h3⟩
 have E:∀(j:Nat) x,g[j]? =Y x->j<O f/\x=HI (N j):=λj x h=>by
  have hj:j<O g:=by
   obtain n|n:=kG j (O g)
   .exact n
   rw[Ie n]at h;cases h
  refine⟨M,?_⟩;rw[u,pz,List.getElem?_range M]at h;simpa using h.symm
 have m:kI (Lib.join (g.map (·.data.toList)) b.data.toList)=xl s (f.map xm):=by
  rw[afY];have d:kI b.data.toList=s:=hb;have U:(g.map (·.data.toList)).map kI=f.map xm:=by
   refine Cv (by simp[D]) λi K k=>?_;have hi:i<O f:=by simpa using k
   simp only[mM,u,List.getElem_range];exact(p i hi).2
  rw[d,U]
 have z:=Go.Proofs.Tryz.strings_Join c o cap g b w (λj x h=>by obtain⟨hj,rfl⟩:=E j x h;rw[hcc j hj];exact fW Y (p j hj).1) hlt M M (by have:=fW O m;rw[kI,jH]at this;omega)
 rw[D]at z;refine z.mono λe w' ⟨he,hw⟩=>⟨_,he,?_⟩
 have Q:=Sc w X (Lib.join (g.map (·.data.toList)) b.data.toList);rw[m]at Q;exact Mj W hw ⟨Z,Z⟩ Q
end
section
variable{G:ez}{B:Nat→Prop}{H:eM}{w w':World}{X:Kx}
def Sd(l:L UInt8):oU (kI l)=l:=by simp only[oU,kI,xU];refine(ER λx _=>?_).trans (Cn _);show x.toNat.toUInt8=x;exact UInt8.toNat_inj.1 (by simp only[Nat.toUInt8,UInt8.toNat_ofNat',Nat.reducePow];have:=x.toNat_lt;omega)
def af0{s:L Nat}(h:(s.all λc=>Nat.blt c 256)=dT):kI (oU s)=s:=by simp only[oU,kI,xU];refine(ER λx v=>?_).trans (Cn _);have K:=lf.1 h x v;rw[lm]at K;have:=j0 K;show x.toUInt8.toNat=x;simp only[Nat.toUInt8,UInt8.toNat_ofNat',Nat.reducePow];omega
def af1:∀a w,(callFunc 133 a).run Go.Proofs.Tryz.prog w=.ok (.enter 133 a) w:=Proofs.YtlkijhibifmamaaGreatDoor.enters Go.Proofs.Tryz.func133 eU Z
def split_ok(R:rU G)(s:L Nat)(t:L (L Nat))(hp:Lib.split (oU s) (oU xb)=t.map oU)(hs:O s<=1000)(o:(t.all λp=>p.all λc=>Nat.blt c 256)=dT):ee Go.Proofs.Tryz.prog G 133 [.J s,.J xb] (pn t):=by
 let⟨m,f⟩:=R.max
 refine λH=>eL.lib af1 λB w X k Q hr=>?_
 let⟨u1,us,hc1,D,I⟩:=hr.Q
 obtain⟨u2,us',rfl,hu2,hus'⟩:=I.Q;obtain rfl:=hus'.lZ;obtain⟨b,rfl,hb⟩:=mn D;obtain⟨a,rfl,hb2⟩:=mn hu2;have g:k=#[.string b,.string a]:=r9;subst g;have d:b.data.toList=oU s:=by rw[<-hb];exact(Sd _).symm
 have y:a.data.toList=oU xb:=by rw[<-hb2];exact(Sd _).symm
 have hsz:b.size<=1000:=TA;have U:a.size=3:=by have:=fW O hb2;rw[jH,tu]at this;exact this
 obtain⟨j,l⟩:∃j,j=Lib.splitB a 0 (Lib.countB b a) b:=⟨_,Z⟩;have hpl:O j=Lib.countB b a+1:=by rw[l];exact Lib.splitB_all a M 0 _ b Z
 have u:j.map (·.data.toList)=t.map oU:=by rw[l,Lib.splitB_data,<-hp,<-d,<-y];rfl
 have C:O j=O t:=by have:=fW O u;simpa using this
 have q:∀i (h:i<O t)(n:i<O j),j[i].data.toList.map UInt8.toNat=t[i]:=λi h n=>by
  have K:(j.map (·.data.toList))[i]' Iu=(t.map oU)[i]' ly:=by simp only[u]
  simp only[mM]at K;have r:=lf.1 o _ (fB h);rw[K];exact af0 r
 have v:fR w X (t.map .J) (j.map Value.string):=by refine⟨by simp[C],λi h n=>?_⟩;simp only[mM];exact .J _ _ (q i ly Iu)
 obtain⟨P,E,x,hU,z⟩:=Ol Q v 9;have W:Lib.countB b a+1=O t:=M
 refine(Go.Proofs.Tryz.strings_Split b a m w M (f w Q.fits) M).mono λe w' ⟨F,N⟩=>⟨_,F,?_⟩
 rw[<-l]at N;subst N;rw[W];exact⟨_,H,P,⟨Z,Z⟩,E,x,sr M z ei (fQ _) M Z⟩
def e169:∀a w,(callFunc 169 a).run Go.Proofs.Tryz.prog w=.ok (.enter 169 a) w:=Proofs.YtlkijhibifmamaaGreatDoor.enters Go.Proofs.Tryz.func169 eU Z
def af2:Bm Go.Proofs.Tryz.prog G:=by
 constructor
 .intro H;refine eL.lib e169 λB w X g K hr=>?_;obtain⟨u1,us,hc1,D,E⟩:=hr.Q;obtain rfl:=E.lZ;cases D;have b:g=#[.slice J 0 0]:=r9;subst b;refine(Go.Proofs.Tryz.slices_Sort_int_none J 0 w).mono λe w' ⟨F,hw⟩=>⟨_,F,?_⟩
  subst hw;exact⟨.eK [],H,X,⟨Z,Z⟩,fL.refl _ _ _,K,.eK _ _ Z λi h=>by simp at h⟩
 intro s q m nx h0 hl h256 hq;obtain⟨f,Q⟩:∃f:List Nat,(s.map Int.ofNat).mergeSort (λx y=>decide (x<=y))=f.map Int.ofNat:=by refine⟨((s.map Int.ofNat).mergeSort (λx y=>decide (x<=y))).map Int.toNat,?_⟩;rw[xU];refine((ER λx hx=>?_).trans (Cn _)).symm;have hx:x∈s.map Int.ofNat:=(List.mergeSort_perm _ _).mem_iff.1 hx;obtain⟨n,_,rfl⟩:=gS.1 hx;rfl
 have l:(f.map Int.ofNat).Perm (s.map Int.ofNat):=by rw[<-Q];exact List.mergeSort_perm _ _
 have k:O f=O s:=by simpa using l.length_eq
 refine⟨f,⟨m.set q (Y (.dY (gM f))),nx⟩,k,λy hy=>?_,?_,?_⟩
 .have:Int.ofNat y∈s.map Int.ofNat:=l.mem_iff.1 (zF hy);obtain⟨n,hn,e⟩:=gS.1 this;cases e;exact hn
 .exact⟨fY,λp hp=>by simp only[T.jr,gj hp],Z⟩
 refine eL.lib e169 λB w X g K hr=>?_;obtain⟨u1,us,hc1,D,E⟩:=hr.Q;obtain rfl:=E.lZ;cases D with
 |eC _ _ _ _ _ c t _ N hcap F hn hs hsz=>
 have b:g=#[.slice (Y ⟨c,0,J⟩) (O s) t]:=r9;subst b;obtain⟨c',g1,g2,⟨eE,ty,fz,R,g4,g5,g6⟩,g7,g8⟩:=K.obj q _ hq;obtain rfl:=gu (N.symm.trans g1);have hU:X.U c=0:=g8 λe=>by cases e
 have hil:O (gM s)=O s:=by simp[gM]
 have harr:O s<=eE.size:=M
 have C:∀i (h:i<O s),eE[i]'(by omega)=.int .i64 (.ofNat s[i]):=λi h=>by
  have W:=g6 i M;have h2:(gM s)[i]'(by omega)=.int .i64 (.ofNat s[i]):=by simp[gM]
  rw[h2]at W;have h3:eE.getD i undef=eE[i]'(by omega):=by simp[show i<eE.size by omega]
  rw[h3]at W;generalize eE[i]'(by omega)=y at W;cases W;rfl
 have r:Go.Sort.Holds (Value.int .i64) w c 0 (s.map Int.ofNat).toArray:=λj hj=>by
  have hj':j<O s:=by simpa using hj
  refine⟨?_,?_⟩
  .rw[lg,mj R,sg M,C j hj',getElem!_pos _ j hj];simp
  simp only[World.frozen?,R];cases hd:(decide (fz.1<=0+j)&&decide (0+j<fz.2))
  .rfl
  simp at hd;omega
 have P:c<w.heap.size:=K.room q c N;have z:=Go.Proofs.Tryz.slices_Sort_int c 0 t (s.map Int.ofNat) w r P (by simp;unfold eI at hl;omega);rw[jH,Q]at z;refine z.mono λe w' ⟨F,n,os,hw⟩=>⟨_,F,?_⟩
 obtain⟨v,I⟩:∃v,v=Go.Sort.putRow (Value.int .i64) (Go.Sort.ahead w n) c 0 (f.map Int.ofNat).toArray:=⟨_,Z⟩;rw[<-I]at hw;have u:v.heap[c]? =Y (.cells (Go.Sort.putCells (Value.int .i64) 0 (f.map Int.ofNat).toArray eE) ty fz):=by rw[I];simp only[Go.Sort.putRow,Go.Sort.mapBlock,Go.Sort.ahead,Ci,oH,R,jb];rfl
 have o:nS c w v:=by rw[I];refine⟨Z,Z,Z,by simp[Go.Sort.putRow,Go.Sort.mapBlock,Go.Sort.ahead],λd hd=>?_⟩;simp only[Go.Sort.putRow,Go.Sort.mapBlock,Go.Sort.ahead,Ci];rw[gj (λe=>hd e.symm)]
 have hE:fL B w X v X:=Jy o g2 R u (by simp[Go.Sort.putCells]) (λi hi=>M);have hyl:O (gM f)=O f:=by simp[gM]
 have H1:=K.put hE (a:=.dY (gM f)) hq N o.other ⟨_,ty,fz,u,g4,by simp[Go.Sort.putCells];omega,λi hi=>by
  have hi':i<O f:=M
  have h2:(gM f)[i]=.int .i64 (.ofNat f[i]):=by simp[gM]
  have h3:(Go.Sort.putCells (Value.int .i64) 0 (f.map Int.ofNat).toArray eE).getD i undef=.int .i64 (.ofNat f[i]):=by
   have:i<eE.size:=M
   simp[Go.Sort.putCells,this,hi']
  rw[h2,h3];exact .int _ _⟩ py py
 have hb:Go.RowKit.Below v.heap.size v w':=by rw[hw];exact Proofs.YtlkijhibifmamaaGreatDoor.below_grow v 0 os
 obtain⟨E2,H2⟩:=HF H1 hb;exact⟨.eK [],_,X,⟨Z,Z⟩,hE.trans E2,H2,.eK _ _ Z λi h=>by simp at h⟩
end
