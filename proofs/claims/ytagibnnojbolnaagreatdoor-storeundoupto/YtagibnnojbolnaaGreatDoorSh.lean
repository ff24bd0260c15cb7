/- Layings of library contracts (by the kit's lay-shelf.mjs and lay-plain.mjs). -/
import Derived.Shelf.Small.Strs
import Derived.Shelf.Strings.Search3
import Derived.Shelf.Strings.Cut
import Derived.Shelf.LaysM
import Derived.Shelf.Strings.IndexAnyAll
import Derived.Shelf.Strings.SlTrimAscii
import Derived.Shelf.Strings.Trim
import Derived.Shelf.Strconv.Itoa1
import Derived.Shelf.Strconv.Itoa2
import Derived.Shelf.Strconv.Itoa4
import Derived.Test.YtagibnnojbolnaaGreatDoorProg
import Derived.Shelf.LaysC
import Derived.Shelf.Strconv.ParseIntPublic10
set_option linter.unusedSimpArgs false
set_option linter.unusedVariables false
namespace Go.Proofs
open Go.Shelf
def Tryz.lays161_ren:Go.Shelf.Ren:=⟨fun|161=>233|231=>266|227=>267|233=>268|235=>269|228=>272|197=>293|151=>294|260=>322|152=>270|137=>114|119=>295|224=>228|225=>227|217=>172|266=>215|n=>n,fun|9=>9|4=>4|3=>3|5=>5|117=>304|116=>303|0=>0|124=>307|105=>335|21=>21|119=>292|46=>267|139=>369|138=>368|n=>n,fun|3=>1|4=>2|n=>n⟩
theorem Tryz.lays161:Go.Proofs.Lays.n161 Tryz.prog Tryz.lays161_ren:=by repeat' first|(intros;kernel_rfl)|constructor
def Tryz.lays217_ren:Go.Shelf.Ren:=⟨fun|217=>172|266=>215|n=>n,fun|9=>9|5=>5|3=>3|n=>n,fun|n=>n⟩
theorem Tryz.lays217:Go.Proofs.Lays.n217 Tryz.prog Tryz.lays217_ren:=by repeat' first|(intros;kernel_rfl)|constructor
def Tryz.lays143_ren:Go.Shelf.Ren:=⟨fun|143=>137|219=>189|217=>172|225=>227|224=>228|267=>229|266=>215|314=>264|n=>n,fun|9=>9|3=>3|4=>4|5=>5|46=>267|146=>299|51=>231|n=>n,fun|1=>0|n=>n⟩
theorem Tryz.lays143:Go.Proofs.Lays.n143 Tryz.prog Tryz.lays143_ren:=by repeat' first|(intros;kernel_rfl)|constructor
def Tryz.lays145_ren:Go.Shelf.Ren:=⟨fun|145=>235|220=>273|219=>189|217=>172|225=>227|224=>228|267=>229|266=>215|314=>264|n=>n,fun|9=>9|4=>4|59=>271|3=>3|5=>5|46=>267|146=>299|51=>231|n=>n,fun|1=>0|n=>n⟩
theorem Tryz.lays145:Go.Proofs.Lays.n145 Tryz.prog Tryz.lays145_ren:=by repeat' first|(intros;kernel_rfl)|constructor
def Tryz.lays153_ren:Go.Shelf.Ren:=⟨fun|153=>234|152=>270|226=>271|227=>267|228=>272|137=>114|119=>295|224=>228|225=>227|217=>172|266=>215|n=>n,fun|9=>9|3=>3|4=>4|5=>5|21=>21|117=>304|116=>303|0=>0|46=>267|124=>307|n=>n,fun|n=>n⟩
theorem Tryz.lays153:Go.Proofs.Lays.n153 Tryz.prog Tryz.lays153_ren:=by repeat' first|(intros;kernel_rfl)|constructor
def Tryz.lays160_ren:Go.Shelf.Ren:=⟨fun|160=>354|232=>356|231=>266|227=>267|234=>357|233=>268|236=>358|235=>269|228=>272|271=>361|151=>294|197=>293|120=>367|152=>270|260=>322|137=>114|119=>295|224=>228|225=>227|217=>172|266=>215|n=>n,fun|9=>9|4=>4|3=>3|5=>5|117=>304|116=>303|0=>0|124=>307|21=>21|105=>335|46=>267|119=>292|139=>369|138=>368|n=>n,fun|3=>1|4=>2|n=>n⟩
theorem Tryz.lays160:Go.Proofs.Lays.n160 Tryz.prog Tryz.lays160_ren:=by repeat' first|(intros;kernel_rfl)|constructor
def Tryz.laysC174_ren:Go.Shelf.Ren:=⟨fun|174=>355|247=>359|245=>360|287=>362|279=>363|280=>364|281=>365|282=>366|321=>368|322=>369|316=>370|171=>372|205=>371|243=>373|246=>374|283=>375|284=>376|285=>377|286=>378|129=>380|317=>379|318=>381|319=>382|320=>383|337=>384|338=>385|n=>n,fun|9=>9|3=>3|2=>2|75=>387|85=>388|4=>4|167=>391|5=>5|53=>392|175=>393|46=>267|168=>395|37=>109|0=>0|210=>399|21=>21|127=>401|145=>404|143=>402|171=>406|173=>409|212=>412|51=>231|20=>20|213=>413|232=>416|233=>417|80=>192|n=>n,fun|15=>3|16=>4|17=>5|18=>6|19=>7|n=>n⟩
theorem Tryz.laysC174:Go.Proofs.LaysC.n174 Tryz.prog Tryz.laysC174_ren:=by repeat' first|(intros;kernel_rfl)|constructor
end Go.Proofs
