/-
  Cells read as the program's data.
-/
import Derived.Test.YtamceaedmdmmlaaGreatDoorZRow1
import Derived.Test.YtamceaedmdmmlaaGreatDoorZLogC
set_option linter.all false
namespace Go.Rse
open Go
def vI:Value->Int
 |.int _ n=>n
 |_=>0
def vB:Value->Bool
 |.bool b=>b
 |_=>false
def intD(cs:List Value):Int:=vI (cs.getD 0 .nilIface)
theorem intD_ok:∀cs,fits [1] cs->intE (intD cs)=cs.map avV:=λcs h=>by
 obtain⟨hl,hk⟩:=h
 match cs,hl with
 |[a0],_=>
  obtain⟨n0,rfl,-⟩:=(hk 0 1 a0 rfl rfl).1 rfl;rfl
def mnD(cs:List Value):Mn:=⟨vI (cs.getD 0 .nilIface),vI (cs.getD 1 .nilIface),vI (cs.getD 2 .nilIface),vI (cs.getD 3 .nilIface)⟩
theorem zFb:∀cs,fits [1,1,1,1] cs->mnE (mnD cs)=cs.map avV:=λcs h=>by
 obtain⟨hl,hk⟩:=h
 match cs,hl with
 |[a0,a1,a2,a3],_=>
  obtain⟨n0,rfl,-⟩:=(hk 0 1 a0 rfl rfl).1 rfl;obtain⟨n1,rfl,-⟩:=(hk 1 1 a1 rfl rfl).1 rfl;obtain⟨n2,rfl,-⟩:=(hk 2 1 a2 rfl rfl).1 rfl;obtain⟨n3,rfl,-⟩:=(hk 3 1 a3 rfl rfl).1 rfl;rfl
def sgD(cs:List Value):Sg:=⟨vI (cs.getD 0 .nilIface),vI (cs.getD 1 .nilIface),vI (cs.getD 2 .nilIface),vI (cs.getD 3 .nilIface),vB (cs.getD 4 .nilIface),vI (cs.getD 5 .nilIface),vB (cs.getD 6 .nilIface),vB (cs.getD 7 .nilIface),⟨vI (cs.getD 8 .nilIface),vI (cs.getD 9 .nilIface),vI (cs.getD 10 .nilIface),vI (cs.getD 11 .nilIface)⟩,vB (cs.getD 12 .nilIface),vI (cs.getD 13 .nilIface),vI (cs.getD 14 .nilIface),vI (cs.getD 15 .nilIface),vI (cs.getD 16 .nilIface)⟩
theorem zFc:∀cs,fits [1,1,1,1,2,1,2,2,1,1,1,1,2,1,1,1,1] cs->sgE (sgD cs)=cs.map avV:=λcs h=>by
 obtain⟨hl,hk⟩:=h
 match cs,hl with
 |[a0,a1,a2,a3,a4,a5,a6,a7,a8,a9,a10,a11,a12,a13,a14,a15,a16],_=>
  obtain⟨n0,rfl,-⟩:=(hk 0 1 a0 rfl rfl).1 rfl;obtain⟨n1,rfl,-⟩:=(hk 1 1 a1 rfl rfl).1 rfl;obtain⟨n2,rfl,-⟩:=(hk 2 1 a2 rfl rfl).1 rfl;obtain⟨n3,rfl,-⟩:=(hk 3 1 a3 rfl rfl).1 rfl;obtain⟨n4,rfl⟩:=(hk 4 2 a4 rfl rfl).2 rfl;obtain⟨n5,rfl,-⟩:=(hk 5 1 a5 rfl rfl).1 rfl;obtain⟨n6,rfl⟩:=(hk 6 2 a6 rfl rfl).2 rfl;obtain⟨n7,rfl⟩:=(hk 7 2 a7 rfl rfl).2 rfl;obtain⟨n8,rfl,-⟩:=(hk 8 1 a8 rfl rfl).1 rfl;obtain⟨n9,rfl,-⟩:=(hk 9 1 a9 rfl rfl).1 rfl;obtain⟨n10,rfl,-⟩:=(hk 10 1 a10 rfl rfl).1 rfl;obtain⟨n11,rfl,-⟩:=(hk 11 1 a11 rfl rfl).1 rfl;obtain⟨n12,rfl⟩:=(hk 12 2 a12 rfl rfl).2 rfl;obtain⟨n13,rfl,-⟩:=(hk 13 1 a13 rfl rfl).1 rfl;obtain⟨n14,rfl,-⟩:=(hk 14 1 a14 rfl rfl).1 rfl;obtain⟨n15,rfl,-⟩:=(hk 15 1 a15 rfl rfl).1 rfl;obtain⟨n16,rfl,-⟩:=(hk 16 1 a16 rfl rfl).1 rfl;rfl
end Go.Rse
