import Derived.Shelf.Strings.Builder1
import Derived.Shelf.Small.Bits
import Derived.Shelf.Small.Strs
import Derived.Shelf.Strings.BuilderF
import Derived.Shelf.Strings.BuilderK
import Derived.Shelf.Strconv.Itoa0
import Derived.Shelf.Strings.Search1
import Derived.Shelf.Strings.Search2
import Derived.Shelf.Strings.Cut
import Derived.Shelf.LaysM
import Derived.Shelf.Strings.Shaped
import Derived.Shelf.Strings.BuilderCap
import Derived.Shelf.Slices.Turned
import Derived.Shelf.Slices.CompactS
import Derived.Shelf.Slices.Cells
import Derived.Ground.SlsfProg
import Derived.Shelf.SlSortCmp.Insertion
import Derived.Shelf.SlSortCmp.SiftDown1
import Derived.Shelf.SlSortCmp.HeapSort1
import Derived.Shelf.SlSortCmp.Insertion1
import Derived.Shelf.SlSortCmp.Median1
import Derived.Shelf.SlSortCmp.Pivot1
import Derived.Shelf.SlSortCmp.ReverseRange1
import Derived.Shelf.SlSortCmp.PartialInsertion1
import Derived.Shelf.SlSortCmp.PartitionEqual1
import Derived.Shelf.SlSortCmp.Partition1
import Derived.Shelf.SlSortCmp.Pdq1
import Derived.Shelf.SlSortCmp.Whole1
import Derived.Shelf.SlSortCmp.NoneTotal
import Derived.Test.YtlnmnjbihgaliaaGreatProg
import Derived.Test.YtlnmnjbihgaliaaGreatGKey
import Derived.Shelf.Strings.BuilderX
import Derived.Shelf.RegionOpenPlain
import Derived.Lib.Walk
import Derived.Lib.Builder
import Derived.Lib.AppendStr
import Derived.Lib.UnsafeStr
import Derived.Laws.Externs
import Derived.Laws.IdiomCopy
set_option linter.unusedVariables false
set_option linter.unusedSimpArgs false
section
namespace Go.Proofs
open Go.Shelf
def Tryz.lays169_ren:Go.Shelf.Ren:=⟨fun|169=>87|n=>n,fun|70=>108|9=>9|0=>0|72=>110|37=>23|127=>126|3=>3|5=>5|n=>n,fun|n=>n⟩
theorem Tryz.lays169:Go.Proofs.Lays.n169 Tryz.prog Tryz.lays169_ren:={
 mixed:=by kernel_rfl
 f169:=Tryz.func87.trans (congrArg some (by kernel_rfl))
 t0:=Tryz.underlying0
 a0:=Tryz.isAgg0
 z0:=Tryz.sizeOf0
 v0:=Tryz.zeroValue0
 t3:=Tryz.underlying3
 a3:=Tryz.isAgg3
 z3:=Tryz.sizeOf3
 v3:=Tryz.zeroValue3
 t9:=Tryz.underlying9
 a9:=Tryz.isAgg9
 z9:=Tryz.sizeOf9
 v9:=Tryz.zeroValue9
 t37:=Tryz.underlying23
 a37:=Tryz.isAgg23
 z37:=Tryz.sizeOf23
 v37:=Tryz.zeroValue23
 t70:=Tryz.underlying108
 a70:=Tryz.isAgg108
 z70:=Tryz.sizeOf108
 v70:=Tryz.zeroValue108
 t72:=Tryz.underlying110
 a72:=Tryz.isAgg110
 z72:=Tryz.sizeOf110
 v72:=Tryz.zeroValue110
 t127:=Tryz.underlying126
 a127:=Tryz.isAgg126
 z127:=Tryz.sizeOf126
 v127:=Tryz.zeroValue126 }
theorem Tryz.Builder_Extra_169:Builder.Extra Tryz.prog Tryz.lays169_ren:={
 sizeBuilder:=by kernel_rfl
 liesBuilder:=by kernel_rfl
 t5:=Tryz.underlying5
 a5:=Tryz.isAgg5
 z5:=Tryz.sizeOf5
 v5:=Tryz.zeroValue5
 infoByte:=by kernel_rfl
 cellsByte:=by kernel_rfl
 sizeByte:=by kernel_rfl
 neB5:=by decide }
open Go.RowKit in
/-- (*strings.Builder).String: "String returns the accumulated string.": WHATEVER THE BUILDER HOLDS. (LAID: no walk: one application.) -/
theorem Tryz.Builder_String_any(B b:Nat)(l:List UInt8)(w:World)(h:Lib.IsBuilder 110 5 B b (Lib.byteCells l) w)(hBw:B≤w.heap.size):
  Calls Tryz.prog 87 #[.pointer (some ⟨b,0,none⟩)] w fun e w'=>e=.returned (.string ⟨l.toArray⟩)∧Below B w w':=Any.Builder_String_any Tryz.lays169 Tryz.Builder_Extra_169 B b l w h hBw
def Tryz.lays213_ren:Go.Shelf.Ren:=⟨fun|213=>75|265=>99|n=>n,fun|9=>9|3=>3|n=>n,fun|n=>n⟩
def Tryz.lays106_ren:Go.Shelf.Ren:=⟨fun|106=>51|213=>75|265=>99|n=>n,fun|9=>9|3=>3|n=>n,fun|n=>n⟩
theorem Tryz.lays106:Go.Proofs.Lays.n106 Tryz.prog Tryz.lays106_ren:={
 mixed:=by kernel_rfl
 f106:=Tryz.func51.trans (congrArg some (by kernel_rfl))
 f213:=Tryz.func75.trans (congrArg some (by kernel_rfl))
 f265:=Tryz.func99.trans (congrArg some (by kernel_rfl))
 t3:=Tryz.underlying3
 a3:=Tryz.isAgg3
 z3:=Tryz.sizeOf3
 v3:=Tryz.zeroValue3
 t9:=Tryz.underlying9
 a9:=Tryz.isAgg9
 z9:=Tryz.sizeOf9
 v9:=Tryz.zeroValue9 }
open Go.RowKit in
/-- strings.Compare: "Compare returns an integer comparing two strings lexicographically. The result will be 0 if a == b, -1 if a < b, and +1 if a > b.": IT RETURNS 'Lib.compareBytes a b'; the world is as it was. (LAID: no walk: one application.) -/
theorem Tryz.strings_Compare(a b:ByteArray)(w:World):
  Calls Tryz.prog 51 #[.string a,.string b] w fun e w'=>e=.returned (.int .i64 (Lib.compareBytes a.data.toList b.data.toList))∧w'=w:=Any.strings_Compare Tryz.lays106 a b w
def Tryz.lays219_ren:Go.Shelf.Ren:=⟨fun|219=>102|217=>109|225=>110|224=>111|267=>112|266=>115|314=>116|n=>n,fun|9=>9|3=>3|4=>4|5=>5|46=>82|146=>140|51=>96|n=>n,fun|1=>0|n=>n⟩
theorem Tryz.lays219:Go.Proofs.Lays.n219 Tryz.prog Tryz.lays219_ren:={
 mixed:=by kernel_rfl
 f217:=Tryz.func109.trans (congrArg some (by kernel_rfl))
 f219:=Tryz.func102.trans (congrArg some (by kernel_rfl))
 f224:=Tryz.func111.trans (congrArg some (by kernel_rfl))
 f225:=Tryz.func110.trans (congrArg some (by kernel_rfl))
 f266:=Tryz.func115.trans (congrArg some (by kernel_rfl))
 f267:=Tryz.func112.trans (congrArg some (by kernel_rfl))
 f314:=Tryz.func116.trans (congrArg some (by kernel_rfl))
 t3:=Tryz.underlying3
 a3:=Tryz.isAgg3
 z3:=Tryz.sizeOf3
 v3:=Tryz.zeroValue3
 t4:=Tryz.underlying4
 a4:=Tryz.isAgg4
 z4:=Tryz.sizeOf4
 v4:=Tryz.zeroValue4
 t5:=Tryz.underlying5
 a5:=Tryz.isAgg5
 z5:=Tryz.sizeOf5
 v5:=Tryz.zeroValue5
 t9:=Tryz.underlying9
 a9:=Tryz.isAgg9
 z9:=Tryz.sizeOf9
 v9:=Tryz.zeroValue9
 t46:=Tryz.underlying82
 a46:=Tryz.isAgg82
 z46:=Tryz.sizeOf82
 v46:=Tryz.zeroValue82
 t51:=Tryz.underlying96
 a51:=Tryz.isAgg96
 z51:=Tryz.sizeOf96
 v51:=Tryz.zeroValue96
 t146:=Tryz.underlying140
 a146:=Tryz.isAgg140
 z146:=Tryz.sizeOf140
 v146:=Tryz.zeroValue140
 g1:=by kernel_rfl }
open Go.RowKit Go.Lib in
/-- internal/stringslite.Index (what strings.Index calls) AT A substr OF ONE BYTE c: IT RETURNS 'Lib.indexByte s c'; the world is as it was. (LAID: no walk: one application.) -/
theorem Tryz.stringslite_Index_one(s:ByteArray)(c:UInt8)(w:World):
  Calls Tryz.prog 102 #[.string s,.string ⟨#[c]⟩] w fun e w'=>e=.returned (.int .i64 (Lib.indexByte s.data.toList c))∧w'=w:=Any.stringslite_Index_one Tryz.lays219 s c w
def Tryz.lays107_ren:Go.Shelf.Ren:=⟨fun|107=>53|108=>76|n=>n,fun|28=>48|3=>3|4=>4|0=>0|n=>n,fun|n=>n⟩
theorem Tryz.lays107:Go.Proofs.Lays.n107 Tryz.prog Tryz.lays107_ren:={
 mixed:=by kernel_rfl
 f107:=Tryz.func53.trans (congrArg some (by kernel_rfl))
 f108:=Tryz.func76.trans (congrArg some (by kernel_rfl))
 t0:=Tryz.underlying0
 a0:=Tryz.isAgg0
 z0:=Tryz.sizeOf0
 v0:=Tryz.zeroValue0
 t3:=Tryz.underlying3
 a3:=Tryz.isAgg3
 z3:=Tryz.sizeOf3
 v3:=Tryz.zeroValue3
 t4:=Tryz.underlying4
 a4:=Tryz.isAgg4
 z4:=Tryz.sizeOf4
 v4:=Tryz.zeroValue4
 t28:=Tryz.underlying48
 a28:=Tryz.isAgg48
 z28:=Tryz.sizeOf48
 v28:=Tryz.zeroValue48 }
open Go.Lib in
/-- slices.Contains at []int: "Contains reports whether v is present in s.": IT RETURNS 'elements.contains v'; the world is as it was. ITS CALLEE slices.Index IS MET BY ITS OWN CONTRACT OFF THE SHELF (lay that first): no loop is walked here. (LAID: no walk: one application.) -/
theorem Tryz.slices_Contains_int(b off n c:Nat)(zs:List Int)(x:Int)(w:World)(hz:n≤zs.length)(hbig:n≤9223372036854775807)(hc:∀ j,j < zs.length→w.cell? ⟨b,off+j,none⟩=some (.int .i64 (zs.getD j 0))):
  Calls Tryz.prog 53 #[.slice (some ⟨b,off,none⟩) n c,.int .i64 x] w fun e w'=>e=.returned (.bool ((zs.take n).contains x))∧w'=w:=Any.slices_Contains_int Tryz.lays107 b off n c zs x w hz hbig hc
def Tryz.lays194_ren:Go.Shelf.Ren:=⟨fun|194=>52|n=>n,fun|31=>46|9=>9|3=>3|4=>4|0=>0|n=>n,fun|n=>n⟩
theorem Tryz.lays194:Go.Proofs.Lays.n194 Tryz.prog Tryz.lays194_ren:={
 mixed:=by kernel_rfl
 f194:=Tryz.func52.trans (congrArg some (by kernel_rfl))
 t0:=Tryz.underlying0
 a0:=Tryz.isAgg0
 z0:=Tryz.sizeOf0
 v0:=Tryz.zeroValue0
 t3:=Tryz.underlying3
 a3:=Tryz.isAgg3
 z3:=Tryz.sizeOf3
 v3:=Tryz.zeroValue3
 t4:=Tryz.underlying4
 a4:=Tryz.isAgg4
 z4:=Tryz.sizeOf4
 v4:=Tryz.zeroValue4
 t9:=Tryz.underlying9
 a9:=Tryz.isAgg9
 z9:=Tryz.sizeOf9
 v9:=Tryz.zeroValue9
 t31:=Tryz.underlying46
 a31:=Tryz.isAgg46
 z31:=Tryz.sizeOf46
 v31:=Tryz.zeroValue46 }
open Go.RowKit Go.Lib Go.Sort in
/-- slices.Compact at []string: "Compact replaces consecutive runs of equal elements with a single copy. This is like the uniq command found on Unix. Compact modifies the contents of the slice s and returns the modified slice, which may have a smaller length. Compact zeroes the elements between the new length and the original length. The result preserves the nilness of s.": IT RETURNS THE SLICE CUT TO 'Lib.compact zs'; ITS CELLS HOLD 'Lib.compact zs', THEN ZERO VALUES up to the old length; all else is as it was, but for the count of draws. IN THE WORDS OF slices.Sort's CONTRACT ('Holds', 'putRow'): so the everyday 'slices.Sort(xs); xs = slices.Compact(xs)' goes from the one contract to the other. It asks 'zs.length ≤ cap' (every slice's: the reslicing 's[:k]' looks at it). Length 0, nil: '.._empty'. (LAID: no walk: one application.) -/
theorem Tryz.slices_Compact_string(blk off cap:Nat)(zs:List (List UInt8))(w:World)(hH:Holds encStr w blk off zs.toArray)(hsz:zs.length≤9223372036854775807)(hcap:zs.length≤cap):
  Calls Tryz.prog 52 #[.slice (some ⟨blk,off,none⟩) zs.length cap] w fun e w'=>e=.returned (.slice (some ⟨blk,off,none⟩) (Lib.compact zs).length cap)∧∃ q,w'=putRow encStr (Sort.ahead w q) blk off (Lib.compact zs++List.replicate (zs.length - (Lib.compact zs).length) []).toArray:=Any.slices_Compact_string Tryz.lays194 blk off cap zs w hH hsz hcap
open Go.RowKit Go.Lib Go.Sort in
/-- The same at a slice of length 0, a nil one too: it comes back as it is. (LAID: no walk: one application.) -/
theorem Tryz.slices_Compact_string_empty(a:Option Addr)(cap:Nat)(w:World):
  Calls Tryz.prog 52 #[.slice a 0 cap] w fun e w'=>e=.returned (.slice a 0 cap)∧w'=w:=Any.slices_Compact_string_empty Tryz.lays194 a cap w
def Tryz.laysSlF6_f50_ren:Go.Shelf.Ren:=⟨fun|6=>50|15=>74|14=>73|28=>97|29=>98|20=>89|21=>90|22=>91|23=>92|24=>93|25=>94|26=>95|27=>96|46=>104|47=>105|48=>106|49=>107|50=>108|57=>114|n=>n,fun|22=>46|24=>9|25=>74|3=>3|39=>82|0=>0|53=>96|55=>85|4=>4|46=>117|45=>116|50=>121|5=>5|9=>9|66=>127|70=>131|76=>137|77=>138|n=>n,fun|n=>n⟩
theorem Tryz.laysSlF6_f50:Go.Proofs.SlLaysF.n6 Tryz.prog Tryz.laysSlF6_f50_ren:={
 mixed:=by kernel_rfl
 f6:=⟨Tryz.f50.name,by decide,Tryz.func50.trans (congrArg some (by kernel_rfl))⟩
 f14:=⟨Tryz.f73.name,by decide,Tryz.func73.trans (congrArg some (by kernel_rfl))⟩
 f15:=Tryz.func74.trans (congrArg some (by kernel_rfl))
 f20:=⟨Tryz.f89.name,by decide,Tryz.func89.trans (congrArg some (by kernel_rfl))⟩
 f21:=⟨Tryz.f90.name,by decide,Tryz.func90.trans (congrArg some (by kernel_rfl))⟩
 f22:=⟨Tryz.f91.name,by decide,Tryz.func91.trans (congrArg some (by kernel_rfl))⟩
 f23:=⟨Tryz.f92.name,by decide,Tryz.func92.trans (congrArg some (by kernel_rfl))⟩
 f24:=⟨Tryz.f93.name,by decide,Tryz.func93.trans (congrArg some (by kernel_rfl))⟩
 f25:=⟨Tryz.f94.name,by decide,Tryz.func94.trans (congrArg some (by kernel_rfl))⟩
 f26:=⟨Tryz.f95.name,by decide,Tryz.func95.trans (congrArg some (by kernel_rfl))⟩
 f27:=⟨Tryz.f96.name,by decide,Tryz.func96.trans (congrArg some (by kernel_rfl))⟩
 f28:=Tryz.func97.trans (congrArg some (by kernel_rfl))
 f29:=Tryz.func98.trans (congrArg some (by kernel_rfl))
 f46:=⟨Tryz.f104.name,by decide,Tryz.func104.trans (congrArg some (by kernel_rfl))⟩
 f47:=Tryz.func105.trans (congrArg some (by kernel_rfl))
 f48:=Tryz.func106.trans (congrArg some (by kernel_rfl))
 f49:=⟨Tryz.f107.name,by decide,Tryz.func107.trans (congrArg some (by kernel_rfl))⟩
 f50:=⟨Tryz.f108.name,by decide,Tryz.func108.trans (congrArg some (by kernel_rfl))⟩
 f57:=⟨Tryz.f114.name,by decide,Tryz.func114.trans (congrArg some (by kernel_rfl))⟩
 t0:=Tryz.underlying0
 a0:=Tryz.isAgg0
 z0:=Tryz.sizeOf0
 v0:=Tryz.zeroValue0
 t3:=Tryz.underlying3
 a3:=Tryz.isAgg3
 z3:=Tryz.sizeOf3
 v3:=Tryz.zeroValue3
 t4:=Tryz.underlying4
 a4:=Tryz.isAgg4
 z4:=Tryz.sizeOf4
 v4:=Tryz.zeroValue4
 t5:=Tryz.underlying5
 a5:=Tryz.isAgg5
 z5:=Tryz.sizeOf5
 v5:=Tryz.zeroValue5
 t9:=Tryz.underlying9
 a9:=Tryz.isAgg9
 z9:=Tryz.sizeOf9
 v9:=Tryz.zeroValue9
 t22:=Tryz.underlying46
 a22:=Tryz.isAgg46
 z22:=Tryz.sizeOf46
 v22:=Tryz.zeroValue46
 a24:=Tryz.isAgg9
 z24:=Tryz.sizeOf9
 t25:=Tryz.underlying74
 a25:=Tryz.isAgg74
 z25:=Tryz.sizeOf74
 v25:=Tryz.zeroValue74
 t39:=Tryz.underlying82
 a39:=Tryz.isAgg82
 z39:=Tryz.sizeOf82
 v39:=Tryz.zeroValue82
 t45:=Tryz.underlying116
 a45:=Tryz.isAgg116
 z45:=Tryz.sizeOf116
 v45:=Tryz.zeroValue116
 t46:=Tryz.underlying117
 a46:=Tryz.isAgg117
 z46:=Tryz.sizeOf117
 v46:=Tryz.zeroValue117
 t50:=Tryz.underlying121
 a50:=Tryz.isAgg121
 z50:=Tryz.sizeOf121
 v50:=Tryz.zeroValue121
 t53:=Tryz.underlying96
 a53:=Tryz.isAgg96
 z53:=Tryz.sizeOf96
 v53:=Tryz.zeroValue96
 t55:=Tryz.underlying85
 a55:=Tryz.isAgg85
 z55:=Tryz.sizeOf85
 v55:=Tryz.zeroValue85
 t66:=Tryz.underlying127
 a66:=Tryz.isAgg127
 z66:=Tryz.sizeOf127
 v66:=Tryz.zeroValue127
 t70:=Tryz.underlying131
 a70:=Tryz.isAgg131
 z70:=Tryz.sizeOf131
 v70:=Tryz.zeroValue131
 t76:=Tryz.underlying137
 a76:=Tryz.isAgg137
 z76:=Tryz.sizeOf137
 v76:=Tryz.zeroValue137
 t77:=Tryz.underlying138
 a77:=Tryz.isAgg138
 z77:=Tryz.sizeOf138
 v77:=Tryz.zeroValue138 }
def Tryz.laysSlF06_f50_ren:Go.Shelf.Ren:=⟨fun|6=>50|15=>74|14=>73|28=>97|29=>98|20=>89|21=>90|22=>91|23=>92|24=>93|25=>94|26=>95|27=>96|46=>104|47=>105|48=>106|49=>107|50=>108|57=>114|n=>n,fun|22=>46|24=>9|25=>74|3=>3|39=>82|0=>0|53=>96|55=>85|4=>4|46=>117|45=>116|50=>121|5=>5|9=>9|66=>127|70=>131|76=>137|77=>138|n=>n,fun|n=>n⟩
theorem Tryz.laysSlF06_f50:Go.Proofs.SlLaysF0.n6 Tryz.prog Tryz.laysSlF06_f50_ren:={
 mixed:=by kernel_rfl
 f6:=⟨Tryz.f50.name,by decide,Tryz.func50.trans (congrArg some (by kernel_rfl))⟩
 f14:=⟨Tryz.f73.name,by decide,Tryz.func73.trans (congrArg some (by kernel_rfl))⟩
 f15:=Tryz.func74.trans (congrArg some (by kernel_rfl))
 f20:=⟨Tryz.f89.name,by decide,Tryz.func89.trans (congrArg some (by kernel_rfl))⟩
 f21:=⟨Tryz.f90.name,by decide,Tryz.func90.trans (congrArg some (by kernel_rfl))⟩
 f22:=⟨Tryz.f91.name,by decide,Tryz.func91.trans (congrArg some (by kernel_rfl))⟩
 f23:=⟨Tryz.f92.name,by decide,Tryz.func92.trans (congrArg some (by kernel_rfl))⟩
 f24:=⟨Tryz.f93.name,by decide,Tryz.func93.trans (congrArg some (by kernel_rfl))⟩
 f25:=⟨Tryz.f94.name,by decide,Tryz.func94.trans (congrArg some (by kernel_rfl))⟩
 f26:=⟨Tryz.f95.name,by decide,Tryz.func95.trans (congrArg some (by kernel_rfl))⟩
 f27:=⟨Tryz.f96.name,by decide,Tryz.func96.trans (congrArg some (by kernel_rfl))⟩
 f28:=Tryz.func97.trans (congrArg some (by kernel_rfl))
 f29:=Tryz.func98.trans (congrArg some (by kernel_rfl))
 f46:=⟨Tryz.f104.name,by decide,Tryz.func104.trans (congrArg some (by kernel_rfl))⟩
 f47:=Tryz.func105.trans (congrArg some (by kernel_rfl))
 f48:=Tryz.func106.trans (congrArg some (by kernel_rfl))
 f49:=⟨Tryz.f107.name,by decide,Tryz.func107.trans (congrArg some (by kernel_rfl))⟩
 f50:=⟨Tryz.f108.name,by decide,Tryz.func108.trans (congrArg some (by kernel_rfl))⟩
 f57:=⟨Tryz.f114.name,by decide,Tryz.func114.trans (congrArg some (by kernel_rfl))⟩
 t0:=Tryz.underlying0
 a0:=Tryz.isAgg0
 z0:=Tryz.sizeOf0
 v0:=Tryz.zeroValue0
 t3:=Tryz.underlying3
 a3:=Tryz.isAgg3
 z3:=Tryz.sizeOf3
 v3:=Tryz.zeroValue3
 t4:=Tryz.underlying4
 a4:=Tryz.isAgg4
 z4:=Tryz.sizeOf4
 v4:=Tryz.zeroValue4
 t5:=Tryz.underlying5
 a5:=Tryz.isAgg5
 z5:=Tryz.sizeOf5
 v5:=Tryz.zeroValue5
 t9:=Tryz.underlying9
 a9:=Tryz.isAgg9
 z9:=Tryz.sizeOf9
 v9:=Tryz.zeroValue9
 t22:=Tryz.underlying46
 a22:=Tryz.isAgg46
 z22:=Tryz.sizeOf46
 v22:=Tryz.zeroValue46
 t25:=Tryz.underlying74
 a25:=Tryz.isAgg74
 z25:=Tryz.sizeOf74
 v25:=Tryz.zeroValue74
 t39:=Tryz.underlying82
 a39:=Tryz.isAgg82
 z39:=Tryz.sizeOf82
 v39:=Tryz.zeroValue82
 t45:=Tryz.underlying116
 a45:=Tryz.isAgg116
 z45:=Tryz.sizeOf116
 v45:=Tryz.zeroValue116
 t46:=Tryz.underlying117
 a46:=Tryz.isAgg117
 z46:=Tryz.sizeOf117
 v46:=Tryz.zeroValue117
 t50:=Tryz.underlying121
 a50:=Tryz.isAgg121
 z50:=Tryz.sizeOf121
 v50:=Tryz.zeroValue121
 t53:=Tryz.underlying96
 a53:=Tryz.isAgg96
 z53:=Tryz.sizeOf96
 v53:=Tryz.zeroValue96
 t55:=Tryz.underlying85
 a55:=Tryz.isAgg85
 z55:=Tryz.sizeOf85
 v55:=Tryz.zeroValue85
 t66:=Tryz.underlying127
 a66:=Tryz.isAgg127
 z66:=Tryz.sizeOf127
 v66:=Tryz.zeroValue127
 t70:=Tryz.underlying131
 a70:=Tryz.isAgg131
 z70:=Tryz.sizeOf131
 v70:=Tryz.zeroValue131
 t76:=Tryz.underlying137
 a76:=Tryz.isAgg137
 z76:=Tryz.sizeOf137
 v76:=Tryz.zeroValue137
 t77:=Tryz.underlying138
 a77:=Tryz.isAgg138
 z77:=Tryz.sizeOf138
 v77:=Tryz.zeroValue138 }
open Go.RowKit Go.Lib Go.Sort in
/-- **slices.SortFunc AT NO ELEMENT, A nil SLICE TOO: nothing turns.** (LAID AT THE INSTANCE 'slices.SortFunc[[]string,string]': no walk: one application.) -/
theorem Tryz.slices_SortFunc_none{α:Type}[Inhabited α](p:Option Addr)(cap:Nat)(fv:Value)(w:World):
  Calls Tryz.prog 50 #[.slice p 0 cap,fv] w fun e w'=>e=.returned (.tuple #[])∧w'=w:=AnyF.slices_SortFunc_none Tryz.laysSlF06_f50 p cap fv w
open Go.RowKit Go.Lib Go.Sort in
/-- **slices.SortFunc AT ONE CELL, UNDER A 'cmp' THAT PARTS WHATEVER TWO THAT ARE NOT ONE: THE ROW HOLDS core's 'mergeSort'.** (LAID AT THE INSTANCE 'slices.SortFunc[[]string,string]': no walk: one application.) -/
theorem Tryz.slices_SortFunc_total{α:Type}[Inhabited α](enc:α→Value)(h1:OneCell enc)(cf:α→α→Int)(hO:SWO (ltOf cf))(g:Nat)(cb:Array Value)(blk off cap:Nat)(d:Array α)(w:World)(eg:∀ args w,(callFunc g args).run Tryz.prog w=.ok (.enter g args) w)(hcmp:CmpLays1 Tryz.prog g cb enc cf blk off d.size w)(hH:Holds enc w blk off d)(hblk:blk < w.heap.size)(hsz:d.size < 4611686018427387904)(hT:∀ x y,(ltOf cf) x y=false→(ltOf cf) y x=false→x=y):
  Calls Tryz.prog 50 #[.slice (some ⟨blk,off,none⟩) d.size cap,.func (.func g) #[] cb] w fun e w'=>
   e=.returned (.tuple #[])∧∃ n os,w'=sortWorld enc w blk off n (d.toList.mergeSort fun x y=>!(ltOf cf) y x).toArray os:=Any.slices_SortFunc_total Tryz.laysSlF6_f50 enc h1 cf hO g cb blk off cap d w eg hcmp hH hblk hsz hT
end Go.Proofs
end
section
open Go.RowKit Go.Proofs.YtlnmnjbihgaliaaGreatW.PrintWords
namespace Go.Proofs.YtlnmnjbihgaliaaGreat
theorem sizeBuilder:(Tryz.prog.info? 110).map (fun i=>(i.size,i.size))=some (2,2):=by kernel_rfl
set_option maxHeartbeats 1000000 in
set_option maxRecDepth 100000 in
theorem copyCheck_used(b:Nat)(w:World)(h0:w.cell? ⟨b,0,none⟩=some (.pointer (some ⟨b,0,none⟩))):
  Calls Tryz.prog 103 #[.pointer (some ⟨b,0,none⟩)] w fun e w'=>e=.returned (.tuple #[])∧w'=w:=by
 obtain ⟨j,hj,_⟩:=Option.map_eq_some_iff.1 sizeBuilder
 go_enter Tryz.func103,Tryz.ntmps103
 go_wp2
 rw [Lib.run_neq_ptr_same w _ Tryz.underlying108 hj]
 go_wp2
 go_end0
 exact ⟨rfl,rfl⟩
set_option maxHeartbeats 1000000 in
set_option maxRecDepth 100000 in
theorem copyCheck_fresh(b:Nat)(w:World)(h0:w.cell? ⟨b,0,none⟩=some (.pointer none))(hsh:w.shape? b=some (110,2))(hfz:w.frozen? ⟨b,0,none⟩=false):
  Calls Tryz.prog 103 #[.pointer (some ⟨b,0,none⟩)] w fun e w'=>e=.returned (.tuple #[])∧w'=w.setCell ⟨b,0,none⟩ (.pointer (some ⟨b,0,none⟩)):=by
 obtain ⟨j,hj,hjs⟩:=Option.map_eq_some_iff.1 sizeBuilder
 have hjs:j.size=2:=(Prod.mk.inj hjs).1
 go_enter Tryz.func103,Tryz.ntmps103
 go_wp2
 rw [Lib.run_to_unsafe w ⟨b,0,none⟩ Tryz.underlying108 Tryz.underlying135 hj (by rw [hjs];decide) hsh (Nat.zero_lt_succ 1)]
 simp only [Result.andThen]
 rw [Oper.upon_value]
 go_wp2
 rw [run_callFunc_extern Tryz.func113 (by kernel_rfl) (by kernel_rfl) (by kernel_rfl) (e:=Extern.AbiNoEscape.same) (by kernel_rfl)]
 rw [Lib.run_noEscape]
 simp only [Result.andThen]
 rw [Oper.upon_value]
 go_wp2
 rw [Lib.run_from_unsafe w ⟨b,0,none⟩ Tryz.underlying135 Tryz.underlying108 hj hsh (by kernel_rfl)]
 simp only [Result.andThen]
 rw [Oper.upon_value]
 go_wp2
 go_end0
 exact ⟨rfl,rfl⟩
theorem copyCheck_calls(B b:Nat)(bs:List Value)(w:World)(h:Lib.IsBuilder 110 5 B b bs w):
  Calls Tryz.prog 103 #[.pointer (some ⟨b,0,none⟩)] w fun e w'=>e=.returned (.tuple #[])∧(Lib.BuilderAt 110 5 B b (.pointer (some ⟨b,0,none⟩)) bs w'∧Below B w w'):=by
 rcases h with h|h
 ·refine (copyCheck_fresh b w h.cell0 h.shape h.frozen0).mono ?_
  rintro e w' ⟨rfl,rfl⟩
  exact ⟨rfl,h.used _,(Below.refl B w).setCell (p:=⟨b,0,none⟩) h.1 _⟩
 ·refine (copyCheck_used b w h.cell0).mono ?_
  rintro e w' ⟨rfl,rfl⟩
  exact ⟨rfl,h,Below.refl B _⟩
set_option maxHeartbeats 2000000 in
set_option maxRecDepth 100000 in
theorem writeByte_calls(B b:Nat)(bs:List Value)(c:Int)(w:World)(h:Lib.IsBuilder 110 5 B b bs w)(hlen:bs.length+1≤140737488355328)(hBw:B≤w.heap.size):
  Calls Tryz.prog 86 #[.pointer (some ⟨b,0,none⟩),.int .u8 c] w fun e w'=>e=.returned .nilIface∧(Lib.BuilderAt 110 5 B b (.pointer (some ⟨b,0,none⟩)) (bs++[.int .u8 c]) w'∧Below B w w'):=by
 obtain ⟨i0,hi,hz⟩:=Option.map_eq_some_iff.1 info5'
 simp only [Prod.mk.injEq] at hz
 obtain ⟨hz0,hz1,hz2⟩:=hz
 go_enter Tryz.func86,Tryz.ntmps86
 go_wp2_with (go_at_call 103;refine (copyCheck_calls B b bs _ h).mono ?_)
 rintro e w1 ⟨rfl,h1,hb1⟩
 obtain ⟨hB,v,hbk,hown,hne⟩:=h1
 have c0:w1.cell? ⟨b,0,none⟩=some (.pointer (some ⟨b,0,none⟩)):=by rw [Lib.cell_of_heap hbk];rfl
 have c1:w1.cell? ⟨b,1,none⟩=some v:=by rw [Lib.cell_of_heap hbk];rfl
 go_wp2_with (at_builtin;refine wpList_append_own _ rfl _ _ 23 rfl B 5 i0 (.int .u8 0) 1 1 Tryz.underlying23 hi hz0 hz1 hz2 rfl (by decide) _ _ _ rfl (hown.alloc _) ⟨w1.heap.size,0,none⟩ 1 1 [.int .u8 c] rfl rfl ?c1 ?c2 ?c3 ?c4 ?c5 ?_)
 case c1=>
  intro j u hj
  match j,hj with
  |0,hj=>simp at hj;subst hj;simp [Addr.add]
 case c2=>intro u hu;simp at hu;subst hu;rfl
 case c3=>unfold maxLen;omega
 case c4=>omega
 case c5=>have:=hb1.size;simp;omega
 intro v' w2 hown' hgrow _
 have hlt:b < w1.heap.size:=by
  rcases Nat.lt_or_ge b w1.heap.size with h'|h'
  ·exact h'
  ·simp [Array.getElem?_eq_none h'] at hbk
 have hb2:w2.heap[b]?=some (.cells #[.pointer (some ⟨b,0,none⟩),v] 110 (0,0)):=by
  rw [hgrow.block b (by simp;omega) (fun e=>hne e.symm),Lib.alloc_old w1 _ b hlt]
  exact hbk
 have d0:w2.cell? ⟨b,0,none⟩=some (.pointer (some ⟨b,0,none⟩)):=by rw [Lib.cell_of_heap hb2];rfl
 have d1:w2.cell? ⟨b,1,none⟩=some v:=by rw [Lib.cell_of_heap hb2];rfl
 have f1:w2.frozen? ⟨b,1,none⟩=false:=Lib.frozen_of_heap hb2 1
 obtain ⟨g,cap,rfl⟩:∃ g cap,v'=.slice (some ⟨g,0,none⟩) (bs.length+1) cap:=by
  rcases hown'.2 with ⟨_,h0⟩|⟨g,cap,cur,hv,_⟩
  ·omega
  ·exact ⟨g,cap,hv⟩
 go_wp2
 go_ret
 refine ⟨rfl,?_,?_⟩
 ·exact Lib.BuilderAt.put (T:=110) (e:=5) hB hb2 (bs':=bs++[.int .u8 c]) (by simpa using hown') (by decide)
 ·exact ((hb1.alloc (by have:=hb1.size;omega) _).grown hgrow (by have:=hb1.size;simp;omega) (fun k hk=>(hown.lt k hk).1)).setCell (p:=⟨b,1,none⟩) hB _
end Go.Proofs.YtlnmnjbihgaliaaGreat
end
section
open Go.RowKit Go.Proofs.YtlnmnjbihgaliaaGreatW.PrintWords
namespace Go.Proofs.YtlnmnjbihgaliaaGreat
/-- What stands within quotes: a byte behind a backslash is that byte. -/
def unq:List UInt8→List UInt8
 |[]=>[]
 |[c]=>[c]
 |c :: d :: r=>if c=92 then d :: unq r else c :: unq (d :: r)
def plainF(s:ByteArray):ByteArray:=if s.size < 2∨bt s 0≠34∨bt s ((s.size:Int) - 1)≠34 then s else ⟨(unq (s.extract 1 (s.size - 1)).data.toList).toArray⟩
theorem bt_list(s:ByteArray)(k:Nat)(h:k < s.size):∃ c,s.data.toList.drop k=c :: s.data.toList.drop (k+1)∧bt s (k:Int)=(c.toNat:Int):=by
 have h':k < s.data.toList.length:=by rw [data_length];exact h
 refine ⟨s.data.toList[k],List.drop_eq_getElem_cons h',?_⟩
 have h2:((k:Int)).toNat < s.size:=by omega
 rw [← bt_at s (k:Int) h2]
 rfl
theorem byteCells_snoc(l:List UInt8)(c:UInt8):Lib.byteCells (l++[c])=Lib.byteCells l++[.int .u8 c.toNat]:=by simp [Lib.byteCells]
theorem byteCells_len(l:List UInt8):(Lib.byteCells l).length=l.length:=by simp [Lib.byteCells]
theorem unq_esc(d:UInt8)(r:List UInt8):unq (92 :: d :: r)=d :: unq r:=by simp [unq]
theorem unq_one(c:UInt8)(r:List UInt8)(h:c≠92∨r=[]):unq (c :: r)=c :: unq r:=by
 cases r with
 |nil=>simp [unq]
 |cons d r=>
  rcases h with h|h
  ·simp [unq,h]
  ·cases h
set_option maxRecDepth 100000 in
set_option maxHeartbeats 4000000 in
theorem plain_calls(s:ByteArray)(w:World)(hs:s.size≤140737488355300):Calls Tryz.prog 70 #[.string s] w fun e w'=>e=.returned (.string (plainF s))∧Below w.heap.size w w':=by
 by_cases h1:s.size < 2
 ·
  have HP:=mkA (show plainF s=s by unfold plainF;rw [if_pos (.inl h1)])
  have h1b:decide ((s.size:Int) < 2)=true:=decide_eq_true (by omega)
  go_enter Tryz.func70,Tryz.ntmps70
  go_wp2
  go_ret
  exact ⟨by rw [HP.out];rfl,Below.refl _ _⟩
 ·
  have h1b:decide ((s.size:Int) < 2)=false:=decide_eq_false (by omega)
  have hx0:∀ h:0 < s.size,((s[0]'h).toNat:Int)=bt s 0:=fun h=>bt_at s 0 h
  have hx1:∀ h:s.size - 1 < s.size,((s[s.size - 1]'h).toNat:Int)=bt s ((s.size:Int) - 1):=fun h=>by
   have e:((s.size:Int) - 1).toNat=s.size - 1:=by omega
   rw [← bt_at s ((s.size:Int) - 1) (by omega)]
   simp only [e]
  have z0:(0:Int)≤(s.size:Int) - 1:=by omega
  have z1:(s.size:Int) - 1 < (s.size:Int):=by omega
  have z2:(0:Int) < (s.size:Int):=by omega
  by_cases h2:bt s 0=34
  ·by_cases h3:bt s ((s.size:Int) - 1)=34
   ·
    have HP:=mkA (show plainF s=⟨(unq (s.extract 1 (s.size - 1)).data.toList).toArray⟩ by unfold plainF;rw [if_neg (fun h=>h.elim h1 (fun h=>h.elim (fun h=>h h2) (fun h=>h h3)))])
    have h3b:(bt s ((s.size:Int) - 1) != 34)=false:=by rw [h3];rfl
    have h2b:(bt s 0 != 34)=false:=by rw [h2];rfl
    have z3:(1:Int)≤(s.size:Int) - 1:=by omega
    have z4:(s.size:Int) - 1≤(s.size:Int):=by omega
    have z5:((s.size:Int) - 1).toNat=s.size - 1:=by omega
    have HT:=mkA (show (s.extract 1 (s.size - 1)).size≤140737488355300 by rw [ByteArray.size_extract];omega)
    clear h1 h2 h3
    go_enter Tryz.func70,Tryz.ntmps70
    go_wp2
    generalize s.extract 1 (s.size - 1)=t at HP HT ⊢
    obtain ⟨n,hn⟩:∃ n,t.size=n:=⟨_,rfl⟩
    have hnb:n≤140737488355300:=by have:=HT.out;omega
    have HN:=mkA hn
    have HW0:=mkA (Lib.fresh_isBuilder 110 5 w)
    clear h1b hx0 hx1 z0 z1 z2 h3b h2b z3 z4 z5 hs HT hn
    go_loopw [4] (fun i wr=>∃ (k:Nat) (out:List UInt8),k≤n∧i=.int .i64 k∧out.length≤k∧Aside0 (out++unq (t.data.toList.drop k)=unq t.data.toList)∧Aside0 (Lib.IsBuilder 110 5 w.heap.size w.heap.size (Lib.byteCells out) wr)∧Aside0 (Below w.heap.size w wr)) (fun i _=>n - (intOf i).toNat)
    case atStart=>exact ⟨0,[],by omega,rfl,by simp,⟨by simp⟩,⟨HW0.out⟩,⟨below_alloc (Below.refl _ _) _⟩⟩
    case round=>
     obtain ⟨k,out,hk,rfl,hol,HQ,HI,HB⟩:=hrel
     have hn:=HN.out
     have hls:=mkA (show w.heap.size≤wr.heap.size from HB.out.size)
     have hol2:=mkA (show (Lib.byteCells out).length+1≤140737488355328 by rw [byteCells_len];omega)
     by_cases hlt:k < n
     ·
      obtain ⟨c,hd,hb⟩:=bt_list t k (by omega)
      have hxk:∀ h:k < t.size,((t[k]'h).toNat:Int)=(c.toNat:Int):=fun h=>by rw [← hb];exact bt_at t (k:Int) (by omega)
      have i0:(0:Int)≤(k:Int):=by omega
      have i1:(k:Int) < (t.size:Int):=by omega
      have HD:=mkA hd
      have HLT:=mkA hlt
      clear hd hb
      by_cases hc:c=92
      ·by_cases hl:k+1 < n
       ·obtain ⟨d,hd,hb⟩:=bt_list t (k+1) (by omega)
        have hxl:∀ h:k+1 < t.size,((t[k+1]'h).toNat:Int)=(d.toNat:Int):=fun h=>by rw [← hb];exact bt_at t ((k+1:Nat):Int) (by omega)
        have HE:=mkA hd
        have HC:=mkA hc
        have HL:=mkA hl
        have hcb:((c.toNat:Int) == 92)=true:=by rw [hc];rfl
        have i2:(k:Int)+1 < (t.size:Int):=by omega
        have i3:(0:Int)≤(k:Int)+1:=by omega
        have i4:((k:Int)+1).toNat=k+1:=by omega
        clear hd hb hc hl hlt
        go_wp2_with (go_at_call 86;refine (writeByte_calls w.heap.size w.heap.size (Lib.byteCells out) (d.toNat:Int) _ HI.out hol2.out hls.out).mono ?_;rintro e w2 ⟨rfl,hi2,hb2⟩;have HI2:=mkA hi2;have HB2:=mkA (HB.out.trans hb2);clear hi2 hb2)
        clear hxk hxl i0 i1 i2 i3 i4 hcb hn
        go_roundw
        case rel=>exact ⟨k+2,out++[d],by have:=HL.out;omega,by go_num,by simp;omega,⟨by rw [← HQ.out,HD.out,HC.out,HE.out,unq_esc];simp⟩,⟨.inr (by rw [byteCells_snoc];exact HI2.out)⟩,HB2⟩
        case measure=>have:=HL.out;simp [intOf];omega
       ·have HU:=mkA (show unq (c :: t.data.toList.drop (k+1))=c :: unq (t.data.toList.drop (k+1)) from unq_one _ _ (.inr (List.drop_eq_nil_of_le (by rw [data_length];omega))))
        have hcb:((c.toNat:Int) == 92)=true:=by rw [hc];rfl
        have i2:¬ ((k:Int)+1 < (t.size:Int)):=by omega
        clear hc hl hlt
        go_wp2_with (go_at_call 86;refine (writeByte_calls w.heap.size w.heap.size (Lib.byteCells out) (c.toNat:Int) _ HI.out hol2.out hls.out).mono ?_;rintro e w2 ⟨rfl,hi2,hb2⟩;have HI2:=mkA hi2;have HB2:=mkA (HB.out.trans hb2);clear hi2 hb2)
        clear hxk i0 i1 i2 hcb hn
        go_roundw
        case rel=>exact ⟨k+1,out++[c],by have:=HLT.out;omega,by go_num,by simp;omega,⟨by rw [← HQ.out,HD.out,HU.out];simp⟩,⟨.inr (by rw [byteCells_snoc];exact HI2.out)⟩,HB2⟩
        case measure=>have:=HLT.out;simp [intOf];omega
      ·have HU:=mkA (show unq (c :: t.data.toList.drop (k+1))=c :: unq (t.data.toList.drop (k+1)) from unq_one _ _ (.inl hc))
       have hcb:((c.toNat:Int) == 92)=false:=by
        rw [beq_eq_false_iff_ne]
        intro h
        exact hc (UInt8.toNat_inj.1 ((show c.toNat=92 from by omega).trans rfl))
       clear hc hlt
       go_wp2_with (go_at_call 86;refine (writeByte_calls w.heap.size w.heap.size (Lib.byteCells out) (c.toNat:Int) _ HI.out hol2.out hls.out).mono ?_;rintro e w2 ⟨rfl,hi2,hb2⟩;have HI2:=mkA hi2;have HB2:=mkA (HB.out.trans hb2);clear hi2 hb2)
       clear hxk i0 i1 hcb hn
       go_roundw
       case rel=>exact ⟨k+1,out++[c],by have:=HLT.out;omega,by go_num,by simp;omega,⟨by rw [← HQ.out,HD.out,HU.out];simp⟩,⟨.inr (by rw [byteCells_snoc];exact HI2.out)⟩,HB2⟩
       case measure=>have:=HLT.out;simp [intOf];omega
     ·
      have i1:¬ ((k:Int) < (t.size:Int)):=by omega
      have HO:=mkA (show out=unq t.data.toList by rw [← HQ.out,List.drop_eq_nil_of_le (by rw [data_length];omega)];simp [unq])
      clear hlt hol2
      go_wp2_with (go_at_call 87;refine (Tryz.Builder_String_any w.heap.size w.heap.size out _ HI.out hls.out).mono ?_;rintro e w2 ⟨rfl,hb2⟩;have HB2:=mkA (HB.out.trans hb2);clear hb2)
      go_ret
      exact ⟨by rw [HP.out,HO.out];rfl,HB2.out⟩
   ·have HP:=mkA (show plainF s=s by unfold plainF;rw [if_pos (.inr (.inr h3))])
    have h3b:(bt s ((s.size:Int) - 1) != 34)=true:=bne_iff_ne.mpr h3
    have h2b:(bt s 0 != 34)=false:=by rw [h2];rfl
    go_enter Tryz.func70,Tryz.ntmps70
    go_wp2
    go_ret
    exact ⟨by rw [HP.out];rfl,Below.refl _ _⟩
  ·have HP:=mkA (show plainF s=s by unfold plainF;rw [if_pos (.inr (.inl h2))])
   have h2b:(bt s 0 != 34)=true:=bne_iff_ne.mpr h2
   go_enter Tryz.func70,Tryz.ntmps70
   go_wp2
   go_ret
   exact ⟨by rw [HP.out];rfl,Below.refl _ _⟩
end Go.Proofs.YtlnmnjbihgaliaaGreat
end
section
open Go.RowKit Go.Proofs.YtlnmnjbihgaliaaGreatW.PrintWords
namespace Go.Proofs.YtlnmnjbihgaliaaGreat
/-- Where the first '=' stands. -/
def eqAt(s:ByteArray):Int:=Lib.indexByte s.data.toList 61
theorem indexByte_lt(l:List UInt8)(c:UInt8):Lib.indexByte l c < l.length∧-1≤Lib.indexByte l c:=by
 refine ⟨?_,Lib.indexByte_ge l c⟩
 induction l with
 |nil=>simp [Lib.indexByte]
 |cons b l ih=>
  unfold Lib.indexByte
  have:=Lib.indexByte_ge l c
  split
  ·simp
  ·split
   ·simp;omega
   ·simp;omega
def cutName(s:ByteArray):ByteArray:=if 0≤eqAt s then s.extract 0 (eqAt s).toNat else s
def cutVal(s:ByteArray):ByteArray:=if 0≤eqAt s then s.extract ((eqAt s).toNat+1) s.size else ⟨#[]⟩
set_option maxRecDepth 100000 in
set_option maxHeartbeats 4000000 in
theorem cutIn_calls(s:ByteArray)(w:World)(hs:s.size≤140737488355328):Calls Tryz.prog 85 #[.string s,.string ⟨#[61]⟩] w fun e w'=>e=.returned (.tuple #[.string (cutName s),.string (cutVal s),.bool (decide (0≤eqAt s))])∧Drawn0 w w':=by
 have hr:=indexByte_lt s.data.toList 61
 rw [data_length] at hr
 have HI:=mkA (fun W=>Tryz.stringslite_Index_one s 61 W)
 obtain ⟨i,hi⟩:∃ i,eqAt s=i:=⟨_,rfl⟩
 unfold cutName cutVal
 have hi':Lib.indexByte s.data.toList 61=i:=hi
 rw [hi'] at hr
 have HJ:=mkA (show ∀ W,Calls Tryz.prog 102 #[.string s,.string ⟨#[61]⟩] W fun e w'=>e=.returned (.int .i64 i)∧w'=W from fun W=>by rw [← hi'];exact HI.out W)
 rw [hi]
 clear HI hi hi'
 obtain ⟨h1,h2⟩:=hr
 by_cases h0:0≤i
 ·have HP:=mkA h0
  have h0b:decide (0≤i)=true:=decide_eq_true h0
  have h3:i≤(s.size:Int):=by omega
  have h4:(0:Int)≤i+1:=by omega
  have h5:i+1≤(s.size:Int):=by omega
  have h6:(i+1).toNat=i.toNat+1:=by omega
  have h7:IntKind.i64.wrap (i+1)=i+1:=IntWalk.i64_in _ (by omega)
  go_enter Tryz.func85,Tryz.ntmps85
  go_wp2_with (go_at_call 102;refine (HJ.out _).mono ?_;rintro e w' ⟨rfl,rfl⟩)
  refine still_at (by kernel_rfl) (by kernel_rfl) ?_
  intro wd hwd
  have HD:=mkA hwd
  clear hwd
  repeat still_step
  refine wpStill_nil ?_
  go_wp2
  go_ret3
  refine ⟨?_,by rw [HD.out];exact (Drawn0.refl _).step 1⟩
  rfl
 ·have HP:=mkA h0
  have h0b:decide (0≤i)=false:=decide_eq_false h0
  go_enter Tryz.func85,Tryz.ntmps85
  go_wp2_with (go_at_call 102;refine (HJ.out _).mono ?_;rintro e w' ⟨rfl,rfl⟩)
  go_ret3
  refine ⟨?_,by first|exact Drawn0.refl _|exact (Drawn0.refl _).step 1⟩
  first|rfl|(rw [if_neg HP.out,if_neg HP.out,decide_eq_false HP.out];rfl)
set_option maxRecDepth 100000 in
theorem cut_calls(s:ByteArray)(w:World)(hs:s.size≤140737488355328):Calls Tryz.prog 69 #[.string s,.string ⟨#[61]⟩] w fun e w'=>e=.returned (.tuple #[.string (cutName s),.string (cutVal s),.bool (decide (0≤eqAt s))])∧Drawn0 w w':=by
 have HC:=mkA (fun W=>cutIn_calls s W hs)
 generalize cutName s=a at HC ⊢
 generalize cutVal s=b at HC ⊢
 generalize decide (0≤eqAt s)=c at HC ⊢
 go_enter Tryz.func69,Tryz.ntmps69
 go_wp2_with (go_at_call 85;refine (HC.out _).mono ?_;rintro e w' ⟨rfl,hd⟩)
 go_ret3
 exact ⟨rfl,hd⟩
end Go.Proofs.YtlnmnjbihgaliaaGreat
end
