import Derived.Shelf.Small.Strs
import Derived.Shelf.Strings.Search3
import Derived.Shelf.Strings.Cut
import Derived.Shelf.LaysM
import Derived.Shelf.Strings.IndexAnyAll
import Derived.Shelf.Strings.SlTrimAscii
import Derived.Shelf.Strings.Trim
import Derived.Shelf.Strconv.Itoa1
import Derived.Shelf.Strconv.Itoa2
import Derived.Shelf.Strconv.Itoa4
import Derived.Test.YtiidaccdmolmkaaGreatDoorProg
set_option linter.all false
namespace Go.Proofs
open Go.Shelf
def Tryz.lays161_ren:Go.Shelf.Ren:=⟨fun|161=>330|231=>343|227=>284|233=>344|235=>345|228=>307|197=>322|151=>309|260=>334|152=>323|137=>106|119=>335|224=>280|225=>279|217=>157|266=>197|n=>n,fun|9=>9|4=>4|3=>3|5=>5|117=>283|116=>282|0=>0|124=>286|105=>301|21=>21|119=>341|46=>279|139=>350|138=>349|n=>n,fun|3=>4|4=>5|n=>n⟩
def Tryz.lays161:Go.Proofs.Lays.n161 Tryz.prog Tryz.lays161_ren:=by repeat' first|(intros;kernel_rfl)|constructor
def Tryz.lays162_ren:Go.Shelf.Ren:=⟨fun|162=>261|232=>283|227=>284|234=>285|236=>286|228=>307|271=>308|151=>309|120=>321|197=>322|152=>323|260=>334|137=>106|119=>335|224=>280|225=>279|217=>157|266=>197|n=>n,fun|9=>9|4=>4|3=>3|5=>5|117=>283|116=>282|0=>0|124=>286|21=>21|105=>301|46=>279|119=>341|139=>350|138=>349|n=>n,fun|3=>4|4=>5|n=>n⟩
def Tryz.lays162:Go.Proofs.Lays.n162 Tryz.prog Tryz.lays162_ren:=by repeat' first|(intros;kernel_rfl)|constructor
def Tryz.lays283_ren:Go.Shelf.Ren:=⟨fun|283=>262|n=>n,fun|3=>3|9=>9|4=>4|n=>n,fun|n=>n⟩
def Tryz.lays283:Go.Proofs.Lays.n283 Tryz.prog Tryz.lays283_ren:=by repeat' first|(intros;kernel_rfl)|constructor
def Tryz.laysM284_ren:Go.Shelf.Ren:=⟨fun|284=>263|129=>288|317=>287|318=>289|n=>n,fun|53=>240|3=>3|212=>288|0=>0|4=>4|46=>279|5=>5|9=>9|n=>n,fun|17=>1|n=>n⟩
def Tryz.laysM284:Go.Proofs.LaysM.n284 Tryz.prog Tryz.laysM284_ren:=by repeat' first|(intros;kernel_rfl)|constructor
def Tryz.lays285_ren:Go.Shelf.Ren:=⟨fun|285=>264|n=>n,fun|37=>65|53=>240|3=>3|4=>4|51=>289|9=>9|5=>5|0=>0|n=>n,fun|n=>n⟩
def Tryz.lays285:Go.Proofs.Lays.n285 Tryz.prog Tryz.lays285_ren:=by repeat' first|(intros;kernel_rfl)|constructor
def Tryz.laysM173_ren:Go.Shelf.Ren:=⟨fun|173=>209|246=>243|283=>262|284=>263|285=>264|286=>265|129=>288|317=>287|318=>289|319=>290|320=>291|337=>310|338=>311|n=>n,fun|2=>2|3=>3|9=>9|4=>4|171=>263|0=>0|53=>240|37=>65|5=>5|173=>266|212=>288|51=>289|20=>20|213=>290|46=>279|232=>324|233=>325|n=>n,fun|17=>1|18=>2|19=>3|n=>n⟩
def Tryz.laysM173:Go.Proofs.LaysM.n173 Tryz.prog Tryz.laysM173_ren:=by repeat' first|(intros;kernel_rfl)|constructor
def Tryz.lays217_ren:Go.Shelf.Ren:=⟨fun|217=>157|266=>197|n=>n,fun|9=>9|5=>5|3=>3|n=>n,fun|n=>n⟩
def Tryz.lays217:Go.Proofs.Lays.n217 Tryz.prog Tryz.lays217_ren:=by repeat' first|(intros;kernel_rfl)|constructor
def Tryz.lays143_ren:Go.Shelf.Ren:=⟨fun|143=>238|219=>258|217=>157|225=>279|224=>280|267=>281|266=>197|314=>306|n=>n,fun|9=>9|3=>3|4=>4|5=>5|46=>279|146=>299|51=>289|n=>n,fun|1=>0|n=>n⟩
def Tryz.lays143:Go.Proofs.Lays.n143 Tryz.prog Tryz.lays143_ren:=by repeat' first|(intros;kernel_rfl)|constructor
def Tryz.lays145_ren:Go.Shelf.Ren:=⟨fun|145=>332|220=>347|219=>258|217=>157|225=>279|224=>280|267=>281|266=>197|314=>306|n=>n,fun|9=>9|4=>4|59=>330|3=>3|5=>5|46=>279|146=>299|51=>289|n=>n,fun|1=>0|n=>n⟩
def Tryz.lays145:Go.Proofs.Lays.n145 Tryz.prog Tryz.lays145_ren:=by repeat' first|(intros;kernel_rfl)|constructor
def Tryz.lays153_ren:Go.Shelf.Ren:=⟨fun|153=>331|152=>323|226=>346|227=>284|228=>307|137=>106|119=>335|224=>280|225=>279|217=>157|266=>197|n=>n,fun|9=>9|3=>3|4=>4|5=>5|21=>21|117=>283|116=>282|0=>0|46=>279|124=>286|n=>n,fun|n=>n⟩
def Tryz.lays153:Go.Proofs.Lays.n153 Tryz.prog Tryz.lays153_ren:=by repeat' first|(intros;kernel_rfl)|constructor
end Go.Proofs
