/- Layings of library contracts (by the kit's lay-shelf.mjs and lay-plain.mjs). -/
import Derived.Shelf.Small.Strs
import Derived.Shelf.Strings.Search3
import Derived.Shelf.Strings.Cut
import Derived.Shelf.LaysM
import Derived.Shelf.Strings.IndexAnyAll
import Derived.Shelf.Strings.SlTrimAscii
import Derived.Shelf.Strings.Trim
import Derived.Shelf.Strconv.Itoa1
import Derived.Shelf.Strconv.Itoa2
import Derived.Shelf.Strconv.Itoa4
import Derived.Test.YtbgmaekmfjhfoaaGreatDoorProg
import Derived.Shelf.LaysC
import Derived.Shelf.Strconv.ParseIntPublic10
set_option linter.unusedSimpArgs false
set_option linter.unusedVariables false
namespace Go.Proofs
open Go.Shelf
def Tryz.lays161_ren:Go.Shelf.Ren:=⟨fun|161=>142|231=>181|227=>182|233=>183|235=>184|228=>187|197=>210|151=>211|260=>230|152=>185|137=>60|119=>212|224=>137|225=>136|217=>97|266=>146|n=>n,fun|9=>9|4=>4|3=>3|5=>5|117=>264|116=>263|0=>0|124=>267|105=>282|21=>21|119=>159|46=>224|139=>309|138=>308|n=>n,fun|3=>1|4=>2|n=>n⟩
theorem Tryz.lays161:Go.Proofs.Lays.n161 Tryz.prog Tryz.lays161_ren:=by repeat' first|(intros;kernel_rfl)|constructor
def Tryz.lays217_ren:Go.Shelf.Ren:=⟨fun|217=>97|266=>146|n=>n,fun|9=>9|5=>5|3=>3|n=>n,fun|n=>n⟩
theorem Tryz.lays217:Go.Proofs.Lays.n217 Tryz.prog Tryz.lays217_ren:=by repeat' first|(intros;kernel_rfl)|constructor
def Tryz.lays143_ren:Go.Shelf.Ren:=⟨fun|143=>48|219=>89|217=>97|225=>136|224=>137|267=>138|266=>146|314=>179|n=>n,fun|9=>9|3=>3|4=>4|5=>5|46=>224|146=>259|51=>88|n=>n,fun|1=>0|n=>n⟩
theorem Tryz.lays143:Go.Proofs.Lays.n143 Tryz.prog Tryz.lays143_ren:=by repeat' first|(intros;kernel_rfl)|constructor
def Tryz.lays145_ren:Go.Shelf.Ren:=⟨fun|145=>144|220=>188|219=>89|217=>97|225=>136|224=>137|267=>138|266=>146|314=>179|n=>n,fun|9=>9|4=>4|59=>228|3=>3|5=>5|46=>224|146=>259|51=>88|n=>n,fun|1=>0|n=>n⟩
theorem Tryz.lays145:Go.Proofs.Lays.n145 Tryz.prog Tryz.lays145_ren:=by repeat' first|(intros;kernel_rfl)|constructor
def Tryz.lays153_ren:Go.Shelf.Ren:=⟨fun|153=>143|152=>185|226=>186|227=>182|228=>187|137=>60|119=>212|224=>137|225=>136|217=>97|266=>146|n=>n,fun|9=>9|3=>3|4=>4|5=>5|21=>21|117=>264|116=>263|0=>0|46=>224|124=>267|n=>n,fun|n=>n⟩
theorem Tryz.lays153:Go.Proofs.Lays.n153 Tryz.prog Tryz.lays153_ren:=by repeat' first|(intros;kernel_rfl)|constructor
def Tryz.lays160_ren:Go.Shelf.Ren:=⟨fun|160=>249|232=>251|231=>181|227=>182|234=>252|233=>183|236=>253|235=>184|228=>187|271=>256|151=>211|197=>210|120=>262|152=>185|260=>230|137=>60|119=>212|224=>137|225=>136|217=>97|266=>146|n=>n,fun|9=>9|4=>4|3=>3|5=>5|117=>264|116=>263|0=>0|124=>267|21=>21|105=>282|46=>224|119=>159|139=>309|138=>308|n=>n,fun|3=>1|4=>2|n=>n⟩
theorem Tryz.lays160:Go.Proofs.Lays.n160 Tryz.prog Tryz.lays160_ren:=by repeat' first|(intros;kernel_rfl)|constructor
def Tryz.laysC174_ren:Go.Shelf.Ren:=⟨fun|174=>250|247=>254|245=>255|287=>257|279=>258|280=>259|281=>260|282=>261|321=>263|322=>264|316=>265|171=>267|205=>266|243=>268|246=>269|283=>270|284=>271|285=>272|286=>273|129=>275|317=>274|318=>276|319=>277|320=>278|337=>279|338=>280|n=>n,fun|9=>9|3=>3|2=>2|75=>327|85=>328|4=>4|167=>331|5=>5|53=>332|175=>333|46=>224|168=>335|37=>67|0=>0|210=>339|21=>21|127=>342|145=>345|143=>343|171=>347|173=>350|212=>353|51=>88|20=>20|213=>354|232=>357|233=>358|80=>127|n=>n,fun|15=>3|16=>4|17=>5|18=>6|19=>7|n=>n⟩
theorem Tryz.laysC174:Go.Proofs.LaysC.n174 Tryz.prog Tryz.laysC174_ren:=by repeat' first|(intros;kernel_rfl)|constructor
end Go.Proofs
