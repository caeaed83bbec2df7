/-
  zgk facts on the program, for the rows.
-/
import Derived.Test.YtamceaedmdmmlaaGreatDoorChecked
import Derived.Test.YtamceaedmdmmlaaGreatDoorRows
import Derived.Test.YtamceaedmdmmlaaGreatDoorZRow3
set_option linter.all false
namespace Go.Proofs.YtamceaedmdmmlaaGreatDoor
open Go Go.Proofs Go.Proofs.Tryz
theorem Tryzown:ownKnob prog.godebug=none:=by kernel_rfl
theorem TryzlaidOut:laidOutB prog=true:=by kernel_rfl
theorem intD_rngs{c:List (List Value)}(h:∀cs∈c,Go.Rse.fits [1] cs):∀x,x∈c.map Go.Rse.intD->-9223372036854775808<=x/\x<=9223372036854775807:=λx hx=>by
 obtain⟨cs,Z,rfl⟩:=List.mem_map.1 hx;obtain⟨hl,hk⟩:=h cs Z
 match cs,hl with
 |[a],_=>
  obtain⟨n,rfl,hn⟩:=(hk 0 1 a rfl rfl).1 rfl;exact Go.Rse.i64_rng hn
end Go.Proofs.YtamceaedmdmmlaaGreatDoor
