/-
  zfV facts on the types, fields and functions of the translation: printed by program (genty.py).
-/
import Derived.Test.YtbopkhoalndflaaGreatDoorProg
import Derived.Test.YtbopkhoalndflaaGreatDoorVLogA
import Derived.KernelRfl
set_option linter.all false
namespace Go.Rse
open Go Go.Proofs Go.Proofs.Tryz
theorem ty3 : tyOk prog 3 false 1 = true := by kernel_rfl
theorem ty4 : tyOk prog 4 false 1 = true := by kernel_rfl
theorem ty23 : tyOk prog 23 true 4 = true := by kernel_rfl
theorem ty24 : tyOk prog 24 false 1 = true := by kernel_rfl
theorem ty28 : tyOk prog 28 false 1 = true := by kernel_rfl
theorem ty32 : tyOk prog 32 true 3 = true := by kernel_rfl
theorem ty33 : tyOk prog 33 false 1 = true := by kernel_rfl
theorem ty46 : tyOk prog 46 false 1 = true := by kernel_rfl
theorem ty50 : tyOk prog 50 false 1 = true := by kernel_rfl
theorem ty56 : tyOk prog 56 false 1 = true := by kernel_rfl
theorem ty75 : tyOk prog 75 true 4 = true := by kernel_rfl
theorem ty83 : tyOk prog 83 true 2 = true := by kernel_rfl
theorem ty90 : tyOk prog 90 true 17 = true := by kernel_rfl
theorem zgP : tyOk prog 100 true 3 = true := by kernel_rfl
theorem zc2 : tyOk prog 107 false 1 = true := by kernel_rfl
theorem zuC : tyOk prog 155 true 5 = true := by kernel_rfl
theorem zuD : tyOk prog 158 true 3 = true := by kernel_rfl
theorem zyN : tyOk prog 177 false 1 = true := by kernel_rfl
theorem zkc : tyOk prog 183 true 12 = true := by kernel_rfl
theorem zyO : tyOk prog 184 false 1 = true := by kernel_rfl
theorem zuE : tyOk prog 210 true 4 = true := by kernel_rfl
theorem zyP : tyOk prog 213 false 1 = true := by kernel_rfl
theorem zyQ : tyOk prog 215 true 4 = true := by kernel_rfl
theorem zuF : tyOk prog 216 true 36 = true := by kernel_rfl
theorem zyR : tyOk prog 234 true 1 = true := by kernel_rfl
theorem zyS : tyOk prog 299 false 1 = true := by kernel_rfl
theorem zyT : tyOk prog 311 false 1 = true := by kernel_rfl
theorem zre : tyOk prog 317 true 7 = true := by kernel_rfl
theorem zyU : tyOk prog 324 false 1 = true := by kernel_rfl
theorem zyV : tyOk prog 327 false 1 = true := by kernel_rfl
theorem zyW : tyOk prog 332 true 1 = true := by kernel_rfl
theorem zyX : tyOk prog 333 false 1 = true := by kernel_rfl
theorem zyY : tyOk prog 357 true 3 = true := by kernel_rfl
theorem zyZ : tyOk prog 365 false 1 = true := by kernel_rfl
theorem zy0 : tyOk prog 367 true 3 = true := by kernel_rfl
theorem zuG : tyOk prog 368 true 15 = true := by kernel_rfl
theorem zy1 : tyOk prog 379 true 3 = true := by kernel_rfl
theorem zy2 : tyOk prog 386 true 3 = true := by kernel_rfl
theorem zy3 : tyOk prog 387 true 15 = true := by kernel_rfl
theorem ze3 : (prog.info? 3).bind (·.zero) = some (.int .i64 0) := by kernel_rfl
theorem zc3 : zd prog 3 [.int .i64 0] := ⟨_, ze3, rfl⟩
theorem ze4 : (prog.info? 4).bind (·.zero) = some (.bool false) := by kernel_rfl
theorem zc4 : zd prog 4 [.bool false] := ⟨_, ze4, rfl⟩
theorem ze23 : (prog.info? 23).bind (·.zero) = some (.agg #[.int .i64 0, .int .i64 0, .int .i64 0, .int .i64 0]) := by kernel_rfl
theorem zc23 : zd prog 23 [.int .i64 0, .int .i64 0, .int .i64 0, .int .i64 0] := ⟨_, ze23, rfl⟩
theorem ze24 : (prog.info? 24).bind (·.zero) = some (.slice none 0 0) := by kernel_rfl
theorem ze28 : (prog.info? 28).bind (·.zero) = some (.int .i64 0) := by kernel_rfl
theorem zc28 : zd prog 28 [.int .i64 0] := ⟨_, ze28, rfl⟩
theorem ze32 : (prog.info? 32).bind (·.zero) = some (.agg #[.bool false, .bool false, .bool false]) := by kernel_rfl
theorem zc32 : zd prog 32 [.bool false, .bool false, .bool false] := ⟨_, ze32, rfl⟩
theorem ze33 : (prog.info? 33).bind (·.zero) = some (.slice none 0 0) := by kernel_rfl
theorem ze46 : (prog.info? 46).bind (·.zero) = some (.slice none 0 0) := by kernel_rfl
theorem zc46 : zd prog 46 [.nils] := ⟨_, ze46, rfl⟩
theorem ze50 : (prog.info? 50).bind (·.zero) = some (.slice none 0 0) := by kernel_rfl
theorem zc50 : zd prog 50 [.nils] := ⟨_, ze50, rfl⟩
theorem ze56 : (prog.info? 56).bind (·.zero) = some (.slice none 0 0) := by kernel_rfl
theorem ze75 : (prog.info? 75).bind (·.zero) = some (.agg #[.slice none 0 0, .slice none 0 0, .slice none 0 0, .slice none 0 0]) := by kernel_rfl
theorem zc75 : zd prog 75 [.nils, .nils, .nils, .nils] := ⟨_, ze75, rfl⟩
theorem ze83 : (prog.info? 83).bind (·.zero) = some (.agg #[.int .i64 0, .int .i64 0]) := by kernel_rfl
theorem zc83 : zd prog 83 [.int .i64 0, .int .i64 0] := ⟨_, ze83, rfl⟩
theorem ze90 : (prog.info? 90).bind (·.zero) = some (.agg #[.int .i64 0, .int .i64 0, .int .i64 0, .int .i64 0, .bool false, .int .i64 0, .bool false, .bool false, .int .i64 0, .int .i64 0, .int .i64 0, .int .i64 0, .bool false, .int .i64 0, .int .i64 0, .int .i64 0, .int .i64 0]) := by kernel_rfl
theorem zc90 : zd prog 90 [.int .i64 0, .int .i64 0, .int .i64 0, .int .i64 0, .bool false, .int .i64 0, .bool false, .bool false, .int .i64 0, .int .i64 0, .int .i64 0, .int .i64 0, .bool false, .int .i64 0, .int .i64 0, .int .i64 0, .int .i64 0] := ⟨_, ze90, rfl⟩
theorem zkd : (prog.info? 100).bind (·.zero) = some (.agg #[.int .i64 0, .int .i64 0, .bool false]) := by kernel_rfl
theorem zy4 : zd prog 100 [.int .i64 0, .int .i64 0, .bool false] := ⟨_, zkd, rfl⟩
theorem zy5 : (prog.info? 107).bind (·.zero) = some (.slice none 0 0) := by kernel_rfl
theorem zy6 : zd prog 107 [.nils] := ⟨_, zy5, rfl⟩
theorem zuH : (prog.info? 155).bind (·.zero) = some (.agg #[.int .i64 0, .bool false, .bool false, .bool false, .int .i64 0]) := by kernel_rfl
theorem zy7 : zd prog 155 [.int .i64 0, .bool false, .bool false, .bool false, .int .i64 0] := ⟨_, zuH, rfl⟩
theorem zuI : (prog.info? 158).bind (·.zero) = some (.agg #[.int .i64 0, .bool false, .bool false]) := by kernel_rfl
theorem zy8 : zd prog 158 [.int .i64 0, .bool false, .bool false] := ⟨_, zuI, rfl⟩
theorem zy9 : (prog.info? 171).bind (·.zero) = some (.agg #[.string ⟨#[]⟩, .slice none 0 0, .int .i64 0, .int .i64 0, .int .i64 0, .int .i64 0, .int .i64 0, .bool false, .bool false]) := by kernel_rfl
theorem zza : zd prog 171 [.str ⟨#[]⟩, .nils, .int .i64 0, .int .i64 0, .int .i64 0, .int .i64 0, .int .i64 0, .bool false, .bool false] := ⟨_, zy9, rfl⟩
theorem zzb : (prog.info? 177).bind (·.zero) = some (.slice none 0 0) := by kernel_rfl
theorem zzc : zd prog 177 [.nils] := ⟨_, zzb, rfl⟩
theorem zrf : (prog.info? 183).bind (·.zero) = some (.agg #[.int .i64 0, .int .i64 0, .bool false, .bool false, .bool false, .int .i64 0, .int .i64 0, .int .i64 0, .int .i64 0, .int .i64 0, .int .i64 0, .int .i64 0]) := by kernel_rfl
theorem zgQ : zd prog 183 [.int .i64 0, .int .i64 0, .bool false, .bool false, .bool false, .int .i64 0, .int .i64 0, .int .i64 0, .int .i64 0, .int .i64 0, .int .i64 0, .int .i64 0] := ⟨_, zrf, rfl⟩
theorem zzd : (prog.info? 210).bind (·.zero) = some (.agg #[.int .i64 0, .int .i64 0, .int .i64 0, .int .i64 0]) := by kernel_rfl
theorem zze : zd prog 210 [.int .i64 0, .int .i64 0, .int .i64 0, .int .i64 0] := ⟨_, zzd, rfl⟩
theorem zzf : (prog.info? 215).bind (·.zero) = some (.agg #[.bool false, .bool false, .bool false, .nilFunc]) := by kernel_rfl
theorem zzg : zd prog 215 [.bool false, .bool false, .bool false, .nilf] := ⟨_, zzf, rfl⟩
theorem zzh : (prog.info? 216).bind (·.zero) = some (.agg #[.bool false, .bool false, .bool false, .nilFunc, .bool false, .bool false, .bool false, .nilFunc, .bool false, .bool false, .bool false, .nilFunc, .bool false, .bool false, .bool false, .nilFunc, .bool false, .bool false, .bool false, .nilFunc, .bool false, .bool false, .bool false, .nilFunc, .bool false, .bool false, .bool false, .nilFunc, .bool false, .bool false, .bool false, .nilFunc, .bool false, .bool false, .bool false, .nilFunc]) := by kernel_rfl
theorem zzi : zd prog 216 [.bool false, .bool false, .bool false, .nilf, .bool false, .bool false, .bool false, .nilf, .bool false, .bool false, .bool false, .nilf, .bool false, .bool false, .bool false, .nilf, .bool false, .bool false, .bool false, .nilf, .bool false, .bool false, .bool false, .nilf, .bool false, .bool false, .bool false, .nilf, .bool false, .bool false, .bool false, .nilf, .bool false, .bool false, .bool false, .nilf] := ⟨_, zzh, rfl⟩
theorem zzj : (prog.info? 234).bind (·.zero) = some (.agg #[.int .i64 0]) := by kernel_rfl
theorem zzk : zd prog 234 [.int .i64 0] := ⟨_, zzj, rfl⟩
theorem zzl : (prog.info? 239).bind (·.zero) = some (.agg #[.int .i64 0, .int .i64 0, .int .i64 0, .int .i64 0, .slice none 0 0, .slice none 0 0, .slice none 0 0]) := by kernel_rfl
theorem zzm : zd prog 239 [.int .i64 0, .int .i64 0, .int .i64 0, .int .i64 0, .nils, .nils, .nils] := ⟨_, zzl, rfl⟩
theorem zzn : (prog.info? 282).bind (·.zero) = some (.agg #[.int .i64 0, .int .i64 0, .int .i64 0, .int .i64 0, .int .i64 0, .int .i64 0]) := by kernel_rfl
theorem zzo : zd prog 282 [.int .i64 0, .int .i64 0, .int .i64 0, .int .i64 0, .int .i64 0, .int .i64 0] := ⟨_, zzn, rfl⟩
theorem zzp : (prog.info? 299).bind (·.zero) = some (.nilFunc) := by kernel_rfl
theorem zzq : zd prog 299 [.nilf] := ⟨_, zzp, rfl⟩
theorem zzr : (prog.info? 311).bind (·.zero) = some (.slice none 0 0) := by kernel_rfl
theorem zzs : zd prog 311 [.nils] := ⟨_, zzr, rfl⟩
theorem zoq : (prog.info? 317).bind (·.zero) = some (.agg #[.int .i64 0, .int .i64 0, .int .i64 0, .int .i64 0, .bool false, .int .i64 0, .int .i64 0]) := by kernel_rfl
theorem zrg : zd prog 317 [.int .i64 0, .int .i64 0, .int .i64 0, .int .i64 0, .bool false, .int .i64 0, .int .i64 0] := ⟨_, zoq, rfl⟩
theorem zzt : (prog.info? 322).bind (·.zero) = some (.agg #[.int .i64 0, .int .i64 0, .int .i64 0, .slice none 0 0, .slice none 0 0, .slice none 0 0, .slice none 0 0]) := by kernel_rfl
theorem zzu : zd prog 322 [.int .i64 0, .int .i64 0, .int .i64 0, .nils, .nils, .nils, .nils] := ⟨_, zzt, rfl⟩
theorem zzv : (prog.info? 324).bind (·.zero) = some (.nilFunc) := by kernel_rfl
theorem zzw : zd prog 324 [.nilf] := ⟨_, zzv, rfl⟩
theorem zzx : (prog.info? 332).bind (·.zero) = some (.agg #[.slice none 0 0]) := by kernel_rfl
theorem zzy : zd prog 332 [.nils] := ⟨_, zzx, rfl⟩
theorem zzz : (prog.info? 335).bind (·.zero) = some (.agg #[.slice none 0 0, .int .i64 0, .int .i64 0, .int .i64 0, .map none]) := by kernel_rfl
theorem zuJ : (prog.info? 357).bind (·.zero) = some (.agg #[.int .i64 0, .int .i64 0, .int .i64 0]) := by kernel_rfl
theorem zzA : zd prog 357 [.int .i64 0, .int .i64 0, .int .i64 0] := ⟨_, zuJ, rfl⟩
theorem zzB : (prog.info? 367).bind (·.zero) = some (.agg #[.nilFunc, .int .i64 0, .int .i64 0]) := by kernel_rfl
theorem zzC : (prog.info? 368).bind (·.zero) = some (.agg #[.nilFunc, .int .i64 0, .int .i64 0, .nilFunc, .int .i64 0, .int .i64 0, .nilFunc, .int .i64 0, .int .i64 0, .nilFunc, .int .i64 0, .int .i64 0, .nilFunc, .int .i64 0, .int .i64 0]) := by kernel_rfl
theorem zzD : zd prog 368 [.nilf, .int .i64 0, .int .i64 0, .nilf, .int .i64 0, .int .i64 0, .nilf, .int .i64 0, .int .i64 0, .nilf, .int .i64 0, .int .i64 0, .nilf, .int .i64 0, .int .i64 0] := ⟨_, zzC, rfl⟩
theorem zzE : (prog.info? 379).bind (·.zero) = some (.agg #[.int .i64 0, .int .i64 0, .bool false]) := by kernel_rfl
theorem zzF : zd prog 379 [.int .i64 0, .int .i64 0, .bool false] := ⟨_, zzE, rfl⟩
theorem zzG : (prog.info? 386).bind (·.zero) = some (.agg #[.bool false, .bool false, .bool false]) := by kernel_rfl
theorem zzH : zd prog 386 [.bool false, .bool false, .bool false] := ⟨_, zzG, rfl⟩
theorem zzI : (prog.info? 387).bind (·.zero) = some (.agg #[.bool false, .bool false, .bool false, .bool false, .bool false, .bool false, .bool false, .bool false, .bool false, .bool false, .bool false, .bool false, .bool false, .bool false, .bool false]) := by kernel_rfl
theorem zuK : zd prog 387 [.bool false, .bool false, .bool false, .bool false, .bool false, .bool false, .bool false, .bool false, .bool false, .bool false, .bool false, .bool false, .bool false, .bool false, .bool false] := ⟨_, zzI, rfl⟩
theorem ti3 : zU prog 3 (.int .i64 0) 1 8 := zC (by kernel_rfl) rfl
theorem ti4 : zU prog 4 (.bool false) 1 1 := zC (by kernel_rfl) rfl
theorem ti24 : zU prog 24 (.slice none 0 0) 1 24 := zC (by kernel_rfl) rfl
theorem ti33 : zU prog 33 (.slice none 0 0) 1 24 := zC (by kernel_rfl) rfl
theorem ti46 : zU prog 46 (.slice none 0 0) 1 24 := zC (by kernel_rfl) rfl
theorem ti56 : zU prog 56 (.slice none 0 0) 1 24 := zC (by kernel_rfl) rfl
theorem ti83 : zU prog 83 (.agg #[.int .i64 0, .int .i64 0]) 2 16 := zC (by kernel_rfl) rfl
theorem ti90 : zU prog 90 (.agg #[.int .i64 0, .int .i64 0, .int .i64 0, .int .i64 0, .bool false, .int .i64 0, .bool false, .bool false, .int .i64 0, .int .i64 0, .int .i64 0, .int .i64 0, .bool false, .int .i64 0, .int .i64 0, .int .i64 0, .int .i64 0]) 17 128 := zC (by kernel_rfl) rfl
theorem zzJ : zU prog 100 (.agg #[.int .i64 0, .int .i64 0, .bool false]) 3 24 := zC (by kernel_rfl) rfl
theorem zzK : zU prog 155 (.agg #[.int .i64 0, .bool false, .bool false, .bool false, .int .i64 0]) 5 24 := zC (by kernel_rfl) rfl
theorem zzL : zU prog 158 (.agg #[.int .i64 0, .bool false, .bool false]) 3 16 := zC (by kernel_rfl) rfl
theorem zuL : zU prog 183 (.agg #[.int .i64 0, .int .i64 0, .bool false, .bool false, .bool false, .int .i64 0, .int .i64 0, .int .i64 0, .int .i64 0, .int .i64 0, .int .i64 0, .int .i64 0]) 12 80 := zC (by kernel_rfl) rfl
theorem zzM : zU prog 317 (.agg #[.int .i64 0, .int .i64 0, .int .i64 0, .int .i64 0, .bool false, .int .i64 0, .int .i64 0]) 7 56 := zC (by kernel_rfl) rfl
theorem zzN : zU prog 357 (.agg #[.int .i64 0, .int .i64 0, .int .i64 0]) 3 24 := zC (by kernel_rfl) rfl
theorem sl24 : slOk prog 24 100 = true := by kernel_rfl
theorem sl33 : slOk prog 33 90 = true := by kernel_rfl
theorem sl46 : slOk prog 46 3 = true := by kernel_rfl
theorem sl50 : slOk prog 50 83 = true := by kernel_rfl
theorem sl56 : slOk prog 56 33 = true := by kernel_rfl
theorem sl65 : slOk prog 65 24 = true := by kernel_rfl
theorem zeP : slOk prog 107 4 = true := by kernel_rfl
theorem zrh : slOk prog 112 56 = true := by kernel_rfl
theorem zzO : slOk prog 150 155 = true := by kernel_rfl
theorem zzP : slOk prog 159 158 = true := by kernel_rfl
theorem zht : slOk prog 177 183 = true := by kernel_rfl
theorem zuM : slOk prog 272 46 = true := by kernel_rfl
theorem zri : slOk prog 311 317 = true := by kernel_rfl
theorem zzQ : slOk prog 354 357 = true := by kernel_rfl
theorem zwG : yT prog 23 0 0 = true := by kernel_rfl
theorem zwH : yT prog 23 1 1 = true := by kernel_rfl
theorem zwI : yT prog 23 2 2 = true := by kernel_rfl
theorem zwJ : yT prog 23 3 3 = true := by kernel_rfl
theorem zwK : yT prog 32 0 0 = true := by kernel_rfl
theorem zwL : yT prog 32 1 1 = true := by kernel_rfl
theorem zwM : yT prog 32 2 2 = true := by kernel_rfl
theorem zwN : yT prog 69 1 1 = true := by kernel_rfl
theorem zwO : yT prog 75 3 3 = true := by kernel_rfl
theorem zwP : yT prog 83 0 0 = true := by kernel_rfl
theorem zwQ : yT prog 83 1 1 = true := by kernel_rfl
theorem zwR : yT prog 90 0 0 = true := by kernel_rfl
theorem zwS : yT prog 90 1 1 = true := by kernel_rfl
theorem zwT : yT prog 90 4 4 = true := by kernel_rfl
theorem zsS : yT prog 100 0 0 = true := by kernel_rfl
theorem zsT : yT prog 100 1 2 = true := by kernel_rfl
theorem zsU : yT prog 155 0 0 = true := by kernel_rfl
theorem zsV : yT prog 155 1 1 = true := by kernel_rfl
theorem zsW : yT prog 155 2 2 = true := by kernel_rfl
theorem zsX : yT prog 155 3 3 = true := by kernel_rfl
theorem zsY : yT prog 155 4 4 = true := by kernel_rfl
theorem zsZ : yT prog 158 0 0 = true := by kernel_rfl
theorem zs0 : yT prog 158 1 1 = true := by kernel_rfl
theorem zs1 : yT prog 158 2 2 = true := by kernel_rfl
theorem zs2 : yT prog 171 0 0 = true := by kernel_rfl
theorem zs3 : yT prog 171 2 6 = true := by kernel_rfl
theorem zs4 : yT prog 171 4 8 = true := by kernel_rfl
theorem zs5 : yT prog 183 1 1 = true := by kernel_rfl
theorem zs6 : yT prog 183 2 2 = true := by kernel_rfl
theorem zs7 : yT prog 183 3 3 = true := by kernel_rfl
theorem zs8 : yT prog 183 4 4 = true := by kernel_rfl
theorem zs9 : yT prog 183 5 5 = true := by kernel_rfl
theorem zta : yT prog 183 6 6 = true := by kernel_rfl
theorem ztb : yT prog 183 7 8 = true := by kernel_rfl
theorem ztc : yT prog 183 8 10 = true := by kernel_rfl
theorem ztd : yT prog 215 0 0 = true := by kernel_rfl
theorem zte : yT prog 215 1 1 = true := by kernel_rfl
theorem ztf : yT prog 215 2 2 = true := by kernel_rfl
theorem ztg : yT prog 215 3 3 = true := by kernel_rfl
theorem zth : yT prog 234 0 0 = true := by kernel_rfl
theorem zti : yT prog 239 0 0 = true := by kernel_rfl
theorem ztj : yT prog 239 1 4 = true := by kernel_rfl
theorem ztk : yT prog 239 2 5 = true := by kernel_rfl
theorem ztl : yT prog 239 3 6 = true := by kernel_rfl
theorem ztm : yT prog 317 0 0 = true := by kernel_rfl
theorem ztn : yT prog 317 1 1 = true := by kernel_rfl
theorem zto : yT prog 317 2 2 = true := by kernel_rfl
theorem ztp : yT prog 317 3 3 = true := by kernel_rfl
theorem ztq : yT prog 317 4 4 = true := by kernel_rfl
theorem ztr : yT prog 317 5 5 = true := by kernel_rfl
theorem zts : yT prog 322 0 0 = true := by kernel_rfl
theorem ztt : yT prog 322 1 2 = true := by kernel_rfl
theorem ztu : yT prog 322 2 3 = true := by kernel_rfl
theorem ztv : yT prog 322 3 4 = true := by kernel_rfl
theorem ztw : yT prog 322 4 5 = true := by kernel_rfl
theorem ztx : yT prog 322 5 6 = true := by kernel_rfl
theorem zty : yT prog 332 0 0 = true := by kernel_rfl
theorem ztz : yT prog 335 0 0 = true := by kernel_rfl
theorem ztA : yT prog 335 1 1 = true := by kernel_rfl
theorem ztB : yT prog 335 2 2 = true := by kernel_rfl
theorem ztC : yT prog 335 3 4 = true := by kernel_rfl
theorem ztD : yT prog 357 0 0 = true := by kernel_rfl
theorem ztE : yT prog 357 1 1 = true := by kernel_rfl
theorem ztF : yT prog 357 2 2 = true := by kernel_rfl
theorem ztG : yT prog 367 0 0 = true := by kernel_rfl
theorem ztH : yT prog 367 1 1 = true := by kernel_rfl
theorem ztI : yT prog 367 2 2 = true := by kernel_rfl
theorem ztJ : yT prog 379 0 0 = true := by kernel_rfl
theorem ztK : yT prog 379 1 1 = true := by kernel_rfl
theorem ztL : yT prog 379 2 2 = true := by kernel_rfl
theorem pl23 : zT prog 23 = some [(0, 1), (1, 1), (2, 1), (3, 1)] := by kernel_rfl
theorem ia23 : zt prog 23 = true := by kernel_rfl
theorem pl32 : zT prog 32 = some [(0, 1), (1, 1), (2, 1)] := by kernel_rfl
theorem ia32 : zt prog 32 = true := by kernel_rfl
theorem pl75 : zT prog 75 = some [(0, 1), (1, 1), (2, 1), (3, 1)] := by kernel_rfl
theorem ia75 : zt prog 75 = true := by kernel_rfl
theorem pl83 : zT prog 83 = some [(0, 1), (1, 1)] := by kernel_rfl
theorem ia83 : zt prog 83 = true := by kernel_rfl
theorem pl90 : zT prog 90 = some [(0, 1), (1, 1), (2, 1), (3, 1), (4, 1), (5, 1), (6, 1), (7, 1), (8, 4), (12, 1), (13, 1), (14, 1), (15, 2)] := by kernel_rfl
theorem ia90 : zt prog 90 = true := by kernel_rfl
theorem zzR : zT prog 100 = some [(0, 2), (2, 1)] := by kernel_rfl
theorem zzS : zt prog 100 = true := by kernel_rfl
theorem zzT : zT prog 155 = some [(0, 1), (1, 1), (2, 1), (3, 1), (4, 1)] := by kernel_rfl
theorem zzU : zt prog 155 = true := by kernel_rfl
theorem zzV : zT prog 158 = some [(0, 1), (1, 1), (2, 1)] := by kernel_rfl
theorem zzW : zt prog 158 = true := by kernel_rfl
theorem zzX : zT prog 171 = some [(0, 2), (2, 4), (6, 1), (7, 1), (8, 1)] := by kernel_rfl
theorem zzY : zt prog 171 = true := by kernel_rfl
theorem zzZ : zT prog 183 = some [(0, 1), (1, 1), (2, 1), (3, 1), (4, 1), (5, 1), (6, 2), (8, 2), (10, 2)] := by kernel_rfl
theorem zz0 : zt prog 183 = true := by kernel_rfl
theorem zz1 : zT prog 215 = some [(0, 1), (1, 1), (2, 1), (3, 1)] := by kernel_rfl
theorem zz2 : zt prog 215 = true := by kernel_rfl
theorem zz3 : zT prog 234 = some [(0, 1)] := by kernel_rfl
theorem zz4 : zt prog 234 = true := by kernel_rfl
theorem zz5 : zT prog 239 = some [(0, 4), (4, 1), (5, 1), (6, 1)] := by kernel_rfl
theorem zz6 : zt prog 239 = true := by kernel_rfl
theorem zz7 : zT prog 317 = some [(0, 1), (1, 1), (2, 1), (3, 1), (4, 1), (5, 2)] := by kernel_rfl
theorem zz8 : zt prog 317 = true := by kernel_rfl
theorem zz9 : zT prog 322 = some [(0, 2), (2, 1), (3, 1), (4, 1), (5, 1), (6, 1)] := by kernel_rfl
theorem zAa : zt prog 322 = true := by kernel_rfl
theorem zAb : zT prog 332 = some [(0, 1)] := by kernel_rfl
theorem zAc : zt prog 332 = true := by kernel_rfl
theorem zAd : zT prog 335 = some [(0, 1), (1, 1), (2, 2), (4, 1)] := by kernel_rfl
theorem zAe : zt prog 335 = true := by kernel_rfl
theorem zAf : zT prog 357 = some [(0, 1), (1, 1), (2, 1)] := by kernel_rfl
theorem zAg : zt prog 357 = true := by kernel_rfl
theorem zAh : zT prog 367 = some [(0, 1), (1, 1), (2, 1)] := by kernel_rfl
theorem zAi : zt prog 367 = true := by kernel_rfl
theorem zAj : zT prog 379 = some [(0, 1), (1, 1), (2, 1)] := by kernel_rfl
theorem zAk : zt prog 379 = true := by kernel_rfl
theorem zrj : zdD prog 210 4 3 = true := by kernel_rfl
theorem zAl : zdD prog 216 9 215 = true := by kernel_rfl
theorem zAm : zdD prog 282 3 83 = true := by kernel_rfl
theorem zAn : zdD prog 368 5 367 = true := by kernel_rfl
theorem zAo : zdD prog 386 3 4 = true := by kernel_rfl
theorem zAp : zdD prog 387 5 386 = true := by kernel_rfl
theorem zAq : (eqOk prog 5 83 && decide (5 <= 10000)) = true := by kernel_rfl
theorem fl83 : flat prog 5 83 = [1, 1] := by kernel_rfl
theorem eqo90 : (eqOk prog 5 90 && decide (5 <= 10000)) = true := by kernel_rfl
theorem fl90 : flat prog 5 90 = [1, 1, 1, 1, 2, 1, 2, 2, 1, 1, 1, 1, 2, 1, 1, 1, 1] := by kernel_rfl
theorem eqo100 : (eqOk prog 5 100 && decide (5 <= 10000)) = true := by kernel_rfl
theorem fl100 : flat prog 5 100 = [1, 1, 2] := by kernel_rfl
theorem eq83 : (eqOk prog 5 83 && decide (5 <= 10000)) = true := zAq
theorem eg83 : prog.eqGuardType prog.depth 83 = false := by kernel_rfl
theorem eq90 : (eqOk prog 5 90 && decide (5 <= 10000)) = true := eqo90
theorem eg90 : prog.eqGuardType prog.depth 90 = false := by kernel_rfl
theorem zAr : (eqOk prog 5 100 && decide (5 <= 10000)) = true := eqo100
theorem zAs : prog.eqGuardType prog.depth 100 = false := by kernel_rfl
theorem mo : prog.follows .mixedOrders = true := by kernel_rfl
end Go.Rse
