/-
  zdR facts on the program, for the rows.
-/
import Derived.Test.YtpapdhoblekoeaaGreatDoorChecked
import Derived.Test.YtpapdhoblekoeaaGreatDoorRows
import Derived.Test.YtpapdhoblekoeaaGreatDoorZRow3
set_option linter.all false
namespace Go.Proofs.YtpapdhoblekoeaaGreatDoor
open Go Go.Proofs Go.Proofs.Tryz
theorem Tryzown:ownKnob prog.godebug=none:=ae
theorem TryzlaidOut:laidOutB prog=true:=ae
theorem intD_rngs{c:List (List Value)}(h:∀cs∈c,Go.Rse.fits [1] cs):∀x,x∈c.map Go.Rse.intD->-9223372036854775808<=x/\x<=9223372036854775807:=λx hx=>by
 obtain⟨cs,Q,rfl⟩:=List.mem_map.1 hx;obtain⟨hl,hk⟩:=h cs Q
 match cs,hl with
 |[a],_=>
  obtain⟨n,rfl,hn⟩:=(hk 0 1 a rfl rfl).1 rfl;exact Go.Rse.i64_rng hn
end Go.Proofs.YtpapdhoblekoeaaGreatDoor
