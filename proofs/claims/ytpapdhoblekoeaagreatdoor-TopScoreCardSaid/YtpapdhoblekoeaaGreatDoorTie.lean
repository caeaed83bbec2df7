/-
  DERIVED. GIVEN WITH THE SEED: THE PROGRAM's TIES (one call each: nine closed facts by the kernel) AND EACH ROW's TIE, after the 31st guide's Derived/Test/Toyas{Tie, Card}.lean. No idea stands in it: it is a product of the set-up. Laid BY PROGRAM, IN A SANDBOX (cutbox-door.mjs). By AI agents, Wed Nov 11 2026. No macro, syntax, notation, axiom, sorry.
-/
import Derived.Test.YtpapdhoblekoeaaGreatDoorRows
import Derived.LaidByTextLater
import Derived.SevenTiedAt
import Derived.LaidSub
import Derived.LaidOnce
namespace Go.Proofs.YtpapdhoblekoeaaGreatDoor
open Go
set_option maxRecDepth 100000
theorem seatTie1 : Tryz.prog.laidByTextLater [("tactus/item.half", Rows.laid_tactus_item_half), ("tactus/pitch.halves", Rows.laid_tactus_pitch_halves), ("tactus/interval.kinds", Rows.laid_tactus_interval_kinds), ("tactus/sign.uses", Rows.laid_tactus_sign_uses), ("tactus/sign.classes", Rows.laid_tactus_sign_classes)] [.data, .data, .data, .data, .data] true :=
  Program.laidByTextLater_by_one 47 8 157 (by kernel_rfl) (by kernel_rfl) (by kernel_rfl) (by kernel_rfl) (by kernel_rfl) (by kernel_rfl) (fun _ _ => by kernel_rfl)
theorem noOwnUnsafe : Tryz.pinned.checked.prog.headLifts.contains "ownunsafe" = false := by kernel_rfl
theorem tie : Tryz.prog.laidByTextLater [("tactus/item.half", Rows.laid_tactus_item_half), ("tactus/pitch.halves", Rows.laid_tactus_pitch_halves), ("tactus/interval.kinds", Rows.laid_tactus_interval_kinds), ("tactus/sign.uses", Rows.laid_tactus_sign_uses), ("tactus/sign.classes", Rows.laid_tactus_sign_classes)] [.data, .data, .data, .data, .data] true :=
  Program.laidByTextLater.sub seatTie1 ["tactus/item.half", "tactus/pitch.halves", "tactus/interval.kinds", "tactus/sign.uses", "tactus/sign.classes"] (by kernel_rfl) (by kernel_rfl)
theorem topScore_row_tie : Rows.topScoreRow.laidByTextAt .later Tryz.pinned [.data, .data, .data, .data, .data] true :=
  OpenClaim.laidByTextAt_later rfl rfl tie noOwnUnsafe
theorem topScoreUpto_row_tie : Rows.topScoreUptoRow.laidByTextAt .later Tryz.pinned [.data, .data, .data, .data, .data] true :=
  OpenClaim.laidByTextAt_later rfl rfl tie noOwnUnsafe
end Go.Proofs.YtpapdhoblekoeaaGreatDoor
