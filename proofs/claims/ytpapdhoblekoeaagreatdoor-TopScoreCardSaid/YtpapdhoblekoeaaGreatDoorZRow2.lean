/-
  Cells read as the program's data.
-/
import Derived.Test.YtpapdhoblekoeaaGreatDoorZRow1
import Derived.Test.YtpapdhoblekoeaaGreatDoorZLogC
set_option linter.all false
namespace Go.Rse
open Go
def vI:Value->Int
 |.int _ n=>n
 |_=>0
def intD(cs:List Value):Int:=vI (cs.getD 0 .nilIface)
theorem intD_ok:∀cs,fits [1] cs->intE (intD cs)=cs.map avV:=λcs h=>by
 obtain⟨hl,hk⟩:=h
 match cs,hl with
 |[a0],_=>
  obtain⟨n0,rfl,-⟩:=(hk 0 1 a0 rfl rfl).1 rfl;rfl
end Go.Rse
