/- Layings of library contracts (by the kit's lay-shelf.mjs and lay-plain.mjs). -/
import Derived.Shelf.Small.Strs
import Derived.Shelf.Strings.Search3
import Derived.Shelf.Strings.Cut
import Derived.Shelf.LaysM
import Derived.Shelf.Strings.IndexAnyAll
import Derived.Shelf.Strings.SlTrimAscii
import Derived.Shelf.Strings.Trim
import Derived.Shelf.Strconv.Itoa1
import Derived.Shelf.Strconv.Itoa2
import Derived.Shelf.Strconv.Itoa4
import Derived.Test.YtpodafkicdifmaaGreatDoorProg
import Derived.Shelf.LaysC
import Derived.Shelf.Strconv.ParseIntPublic10
set_option linter.unusedSimpArgs false
set_option linter.unusedVariables false
namespace Go.Proofs
open Go.Shelf
def Tryz.lays161_ren:Go.Shelf.Ren:=⟨fun|161=>229|231=>257|227=>258|233=>259|235=>260|228=>263|197=>282|151=>283|260=>302|152=>261|137=>59|119=>284|224=>224|225=>223|217=>104|266=>155|n=>n,fun|9=>9|4=>4|3=>3|5=>5|117=>303|116=>302|0=>0|124=>306|105=>321|21=>21|119=>231|46=>275|139=>342|138=>341|n=>n,fun|3=>1|4=>2|n=>n⟩
theorem Tryz.lays161:Go.Proofs.Lays.n161 Tryz.prog Tryz.lays161_ren:=by repeat' first|(intros;kernel_rfl)|constructor
def Tryz.lays217_ren:Go.Shelf.Ren:=⟨fun|217=>104|266=>155|n=>n,fun|9=>9|5=>5|3=>3|n=>n,fun|n=>n⟩
theorem Tryz.lays217:Go.Proofs.Lays.n217 Tryz.prog Tryz.lays217_ren:=by repeat' first|(intros;kernel_rfl)|constructor
def Tryz.lays143_ren:Go.Shelf.Ren:=⟨fun|143=>132|219=>182|217=>104|225=>223|224=>224|267=>225|266=>155|314=>255|n=>n,fun|9=>9|3=>3|4=>4|5=>5|46=>275|146=>298|51=>147|n=>n,fun|1=>0|n=>n⟩
theorem Tryz.lays143:Go.Proofs.Lays.n143 Tryz.prog Tryz.lays143_ren:=by repeat' first|(intros;kernel_rfl)|constructor
def Tryz.lays145_ren:Go.Shelf.Ren:=⟨fun|145=>231|220=>264|219=>182|217=>104|225=>223|224=>224|267=>225|266=>155|314=>255|n=>n,fun|9=>9|4=>4|59=>278|3=>3|5=>5|46=>275|146=>298|51=>147|n=>n,fun|1=>0|n=>n⟩
theorem Tryz.lays145:Go.Proofs.Lays.n145 Tryz.prog Tryz.lays145_ren:=by repeat' first|(intros;kernel_rfl)|constructor
def Tryz.lays153_ren:Go.Shelf.Ren:=⟨fun|153=>230|152=>261|226=>262|227=>258|228=>263|137=>59|119=>284|224=>224|225=>223|217=>104|266=>155|n=>n,fun|9=>9|3=>3|4=>4|5=>5|21=>21|117=>303|116=>302|0=>0|46=>275|124=>306|n=>n,fun|n=>n⟩
theorem Tryz.lays153:Go.Proofs.Lays.n153 Tryz.prog Tryz.lays153_ren:=by repeat' first|(intros;kernel_rfl)|constructor
def Tryz.lays160_ren:Go.Shelf.Ren:=⟨fun|160=>327|232=>329|231=>257|227=>258|234=>330|233=>259|236=>331|235=>260|228=>263|271=>334|151=>283|197=>282|120=>340|152=>261|260=>302|137=>59|119=>284|224=>224|225=>223|217=>104|266=>155|n=>n,fun|9=>9|4=>4|3=>3|5=>5|117=>303|116=>302|0=>0|124=>306|21=>21|105=>321|46=>275|119=>231|139=>342|138=>341|n=>n,fun|3=>1|4=>2|n=>n⟩
theorem Tryz.lays160:Go.Proofs.Lays.n160 Tryz.prog Tryz.lays160_ren:=by repeat' first|(intros;kernel_rfl)|constructor
def Tryz.laysC174_ren:Go.Shelf.Ren:=⟨fun|174=>328|247=>332|245=>333|287=>335|279=>336|280=>337|281=>338|282=>339|321=>341|322=>342|316=>343|171=>345|205=>344|243=>346|246=>347|283=>348|284=>349|285=>350|286=>351|129=>353|317=>352|318=>354|319=>355|320=>356|337=>357|338=>358|n=>n,fun|9=>9|3=>3|2=>2|75=>360|85=>361|4=>4|167=>364|5=>5|53=>365|175=>366|46=>275|168=>368|37=>77|0=>0|210=>372|21=>21|127=>374|145=>377|143=>375|171=>379|173=>382|212=>385|51=>147|20=>20|213=>386|232=>389|233=>390|80=>192|n=>n,fun|15=>3|16=>4|17=>5|18=>6|19=>7|n=>n⟩
theorem Tryz.laysC174:Go.Proofs.LaysC.n174 Tryz.prog Tryz.laysC174_ren:=by repeat' first|(intros;kernel_rfl)|constructor
end Go.Proofs
