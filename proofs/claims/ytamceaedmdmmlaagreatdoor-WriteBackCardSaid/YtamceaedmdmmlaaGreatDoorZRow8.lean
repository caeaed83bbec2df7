/-
  Cells read as beats and habits.
-/
import Derived.Test.YtamceaedmdmmlaaGreatDoorZRow2
import Derived.Test.YtamceaedmdmmlaaGreatDoorZJWri0
set_option linter.all false
namespace Go.Rse
open Go
def btD(cs:List Value):Bt:=⟨⟨vI (cs.getD 0 .nilIface),vI (cs.getD 1 .nilIface)⟩,vB (cs.getD 2 .nilIface)⟩
theorem zFd:∀cs,fits [1,1,2] cs->btE (btD cs)=cs.map avV:=λcs h=>by
 obtain⟨hl,hk⟩:=h
 match cs,hl with
 |[a0,a1,a2],_=>
  obtain⟨n0,rfl,-⟩:=(hk 0 1 a0 rfl rfl).1 rfl;obtain⟨n1,rfl,-⟩:=(hk 1 1 a1 rfl rfl).1 rfl;obtain⟨n2,rfl⟩:=(hk 2 2 a2 rfl rfl).2 rfl;rfl
def hbD(cs:List Value):Hb:=⟨vB (cs.getD 0 .nilIface),vB (cs.getD 1 .nilIface),vB (cs.getD 2 .nilIface)⟩
theorem hbD_ok:∀cs,fits [2,2,2] cs->hbE (hbD cs)=cs.map avV:=λcs h=>by
 obtain⟨hl,hk⟩:=h
 match cs,hl with
 |[a0,a1,a2],_=>
  obtain⟨n0,rfl⟩:=(hk 0 2 a0 rfl rfl).2 rfl;obtain⟨n1,rfl⟩:=(hk 1 2 a1 rfl rfl).2 rfl;obtain⟨n2,rfl⟩:=(hk 2 2 a2 rfl rfl).2 rfl;rfl
end Go.Rse
