/-
  zgu facts on the types, fields and functions of the translation: printed by program (genty.py).
-/
import Derived.Test.YtbopkhoalndflaaGreatDoorProg
import Derived.Test.YtbopkhoalndflaaGreatDoorULogA
import Derived.KernelRfl
set_option linter.all false
namespace Go.Rse
open Go Go.Proofs Go.Proofs.Tryz
theorem ty3:tyOk prog 3 false 1=true:=by kernel_rfl
theorem ty4:tyOk prog 4 false 1=true:=by kernel_rfl
theorem ty23:tyOk prog 23 true 4=true:=by kernel_rfl
theorem ty24:tyOk prog 24 false 1=true:=by kernel_rfl
theorem ty28:tyOk prog 28 false 1=true:=by kernel_rfl
theorem ty32:tyOk prog 32 true 3=true:=by kernel_rfl
theorem ty33:tyOk prog 33 false 1=true:=by kernel_rfl
theorem ty46:tyOk prog 46 false 1=true:=by kernel_rfl
theorem ty50:tyOk prog 50 false 1=true:=by kernel_rfl
theorem ty56:tyOk prog 56 false 1=true:=by kernel_rfl
theorem ty75:tyOk prog 75 true 4=true:=by kernel_rfl
theorem ty83:tyOk prog 83 true 2=true:=by kernel_rfl
theorem ty90:tyOk prog 90 true 17=true:=by kernel_rfl
theorem zf5:tyOk prog 100 true 3=true:=by kernel_rfl
theorem zdt:tyOk prog 107 false 1=true:=by kernel_rfl
theorem zAC:tyOk prog 112 false 1=true:=by kernel_rfl
theorem zsc:tyOk prog 125 true 3=true:=by kernel_rfl
theorem zAD:tyOk prog 146 false 1=true:=by kernel_rfl
theorem zvE:tyOk prog 155 true 5=true:=by kernel_rfl
theorem zvF:tyOk prog 158 true 3=true:=by kernel_rfl
theorem zAE:tyOk prog 177 false 1=true:=by kernel_rfl
theorem zkW:tyOk prog 183 true 12=true:=by kernel_rfl
theorem zAF:tyOk prog 184 false 1=true:=by kernel_rfl
theorem zvG:tyOk prog 210 true 4=true:=by kernel_rfl
theorem zAG:tyOk prog 213 false 1=true:=by kernel_rfl
theorem zAH:tyOk prog 215 true 4=true:=by kernel_rfl
theorem zvH:tyOk prog 216 true 36=true:=by kernel_rfl
theorem zAI:tyOk prog 234 true 1=true:=by kernel_rfl
theorem zAJ:tyOk prog 299 false 1=true:=by kernel_rfl
theorem zAK:tyOk prog 311 false 1=true:=by kernel_rfl
theorem zsd:tyOk prog 317 true 7=true:=by kernel_rfl
theorem zAL:tyOk prog 324 false 1=true:=by kernel_rfl
theorem zAM:tyOk prog 327 false 1=true:=by kernel_rfl
theorem zAN:tyOk prog 332 true 1=true:=by kernel_rfl
theorem zAO:tyOk prog 333 false 1=true:=by kernel_rfl
theorem zAP:tyOk prog 357 true 3=true:=by kernel_rfl
theorem zAQ:tyOk prog 365 false 1=true:=by kernel_rfl
theorem zAR:tyOk prog 367 true 3=true:=by kernel_rfl
theorem zvI:tyOk prog 368 true 15=true:=by kernel_rfl
theorem zAS:tyOk prog 379 true 3=true:=by kernel_rfl
theorem zAT:tyOk prog 386 true 3=true:=by kernel_rfl
theorem zAU:tyOk prog 387 true 15=true:=by kernel_rfl
theorem ze3:(prog.info? 3).bind (·.zero)=some (.int .i64 0):=by kernel_rfl
theorem zc3:y9 prog 3 [.int .i64 0]:=⟨_,ze3,rfl⟩
theorem ze4:(prog.info? 4).bind (·.zero)=some (.bool false):=by kernel_rfl
theorem zc4:y9 prog 4 [.bool false]:=⟨_,ze4,rfl⟩
theorem ze23:(prog.info? 23).bind (·.zero)=some (.agg #[.int .i64 0,.int .i64 0,.int .i64 0,.int .i64 0]):=by kernel_rfl
theorem zc23:y9 prog 23 [.int .i64 0,.int .i64 0,.int .i64 0,.int .i64 0]:=⟨_,ze23,rfl⟩
theorem ze24:(prog.info? 24).bind (·.zero)=some (.slice none 0 0):=by kernel_rfl
theorem ze28:(prog.info? 28).bind (·.zero)=some (.int .i64 0):=by kernel_rfl
theorem zc28:y9 prog 28 [.int .i64 0]:=⟨_,ze28,rfl⟩
theorem ze32:(prog.info? 32).bind (·.zero)=some (.agg #[.bool false,.bool false,.bool false]):=by kernel_rfl
theorem zc32:y9 prog 32 [.bool false,.bool false,.bool false]:=⟨_,ze32,rfl⟩
theorem ze33:(prog.info? 33).bind (·.zero)=some (.slice none 0 0):=by kernel_rfl
theorem ze46:(prog.info? 46).bind (·.zero)=some (.slice none 0 0):=by kernel_rfl
theorem zc46:y9 prog 46 [.nils]:=⟨_,ze46,rfl⟩
theorem ze50:(prog.info? 50).bind (·.zero)=some (.slice none 0 0):=by kernel_rfl
theorem zc50:y9 prog 50 [.nils]:=⟨_,ze50,rfl⟩
theorem ze56:(prog.info? 56).bind (·.zero)=some (.slice none 0 0):=by kernel_rfl
theorem zc56:y9 prog 56 [.nils]:=⟨_,ze56,rfl⟩
theorem ze75:(prog.info? 75).bind (·.zero)=some (.agg #[.slice none 0 0,.slice none 0 0,.slice none 0 0,.slice none 0 0]):=by kernel_rfl
theorem zc75:y9 prog 75 [.nils,.nils,.nils,.nils]:=⟨_,ze75,rfl⟩
theorem ze83:(prog.info? 83).bind (·.zero)=some (.agg #[.int .i64 0,.int .i64 0]):=by kernel_rfl
theorem zc83:y9 prog 83 [.int .i64 0,.int .i64 0]:=⟨_,ze83,rfl⟩
theorem ze90:(prog.info? 90).bind (·.zero)=some (.agg #[.int .i64 0,.int .i64 0,.int .i64 0,.int .i64 0,.bool false,.int .i64 0,.bool false,.bool false,.int .i64 0,.int .i64 0,.int .i64 0,.int .i64 0,.bool false,.int .i64 0,.int .i64 0,.int .i64 0,.int .i64 0]):=by kernel_rfl
theorem zc90:y9 prog 90 [.int .i64 0,.int .i64 0,.int .i64 0,.int .i64 0,.bool false,.int .i64 0,.bool false,.bool false,.int .i64 0,.int .i64 0,.int .i64 0,.int .i64 0,.bool false,.int .i64 0,.int .i64 0,.int .i64 0,.int .i64 0]:=⟨_,ze90,rfl⟩
theorem ze94:(prog.info? 94).bind (·.zero)=some (.agg #[.bool false,.bool false,.bool false,.bool false,.bool false,.bool false,.bool false,.bool false]):=by kernel_rfl
theorem zc94:y9 prog 94 [.bool false,.bool false,.bool false,.bool false,.bool false,.bool false,.bool false,.bool false]:=⟨_,ze94,rfl⟩
theorem zjZ:(prog.info? 100).bind (·.zero)=some (.agg #[.int .i64 0,.int .i64 0,.bool false]):=by kernel_rfl
theorem zAV:y9 prog 100 [.int .i64 0,.int .i64 0,.bool false]:=⟨_,zjZ,rfl⟩
theorem zAW:(prog.info? 107).bind (·.zero)=some (.slice none 0 0):=by kernel_rfl
theorem zAX:y9 prog 107 [.nils]:=⟨_,zAW,rfl⟩
theorem zvJ:(prog.info? 125).bind (·.zero)=some (.agg #[.int .i64 0,.int .i64 0,.slice none 0 0]):=by kernel_rfl
theorem zAY:y9 prog 125 [.int .i64 0,.int .i64 0,.nils]:=⟨_,zvJ,rfl⟩
theorem zvK:(prog.info? 155).bind (·.zero)=some (.agg #[.int .i64 0,.bool false,.bool false,.bool false,.int .i64 0]):=by kernel_rfl
theorem zAZ:y9 prog 155 [.int .i64 0,.bool false,.bool false,.bool false,.int .i64 0]:=⟨_,zvK,rfl⟩
theorem zvL:(prog.info? 158).bind (·.zero)=some (.agg #[.int .i64 0,.bool false,.bool false]):=by kernel_rfl
theorem zA0:y9 prog 158 [.int .i64 0,.bool false,.bool false]:=⟨_,zvL,rfl⟩
theorem zA1:(prog.info? 177).bind (·.zero)=some (.slice none 0 0):=by kernel_rfl
theorem zA2:y9 prog 177 [.nils]:=⟨_,zA1,rfl⟩
theorem zse:(prog.info? 183).bind (·.zero)=some (.agg #[.int .i64 0,.int .i64 0,.bool false,.bool false,.bool false,.int .i64 0,.int .i64 0,.int .i64 0,.int .i64 0,.int .i64 0,.int .i64 0,.int .i64 0]):=by kernel_rfl
theorem zho:y9 prog 183 [.int .i64 0,.int .i64 0,.bool false,.bool false,.bool false,.int .i64 0,.int .i64 0,.int .i64 0,.int .i64 0,.int .i64 0,.int .i64 0,.int .i64 0]:=⟨_,zse,rfl⟩
theorem zA3:(prog.info? 210).bind (·.zero)=some (.agg #[.int .i64 0,.int .i64 0,.int .i64 0,.int .i64 0]):=by kernel_rfl
theorem zA4:y9 prog 210 [.int .i64 0,.int .i64 0,.int .i64 0,.int .i64 0]:=⟨_,zA3,rfl⟩
theorem zA5:(prog.info? 215).bind (·.zero)=some (.agg #[.bool false,.bool false,.bool false,.nilFunc]):=by kernel_rfl
theorem zA6:y9 prog 215 [.bool false,.bool false,.bool false,.nilf]:=⟨_,zA5,rfl⟩
theorem zA7:(prog.info? 216).bind (·.zero)=some (.agg #[.bool false,.bool false,.bool false,.nilFunc,.bool false,.bool false,.bool false,.nilFunc,.bool false,.bool false,.bool false,.nilFunc,.bool false,.bool false,.bool false,.nilFunc,.bool false,.bool false,.bool false,.nilFunc,.bool false,.bool false,.bool false,.nilFunc,.bool false,.bool false,.bool false,.nilFunc,.bool false,.bool false,.bool false,.nilFunc,.bool false,.bool false,.bool false,.nilFunc]):=by kernel_rfl
theorem zA8:y9 prog 216 [.bool false,.bool false,.bool false,.nilf,.bool false,.bool false,.bool false,.nilf,.bool false,.bool false,.bool false,.nilf,.bool false,.bool false,.bool false,.nilf,.bool false,.bool false,.bool false,.nilf,.bool false,.bool false,.bool false,.nilf,.bool false,.bool false,.bool false,.nilf,.bool false,.bool false,.bool false,.nilf,.bool false,.bool false,.bool false,.nilf]:=⟨_,zA7,rfl⟩
theorem zA9:(prog.info? 234).bind (·.zero)=some (.agg #[.int .i64 0]):=by kernel_rfl
theorem zBa:y9 prog 234 [.int .i64 0]:=⟨_,zA9,rfl⟩
theorem zBb:(prog.info? 239).bind (·.zero)=some (.agg #[.int .i64 0,.int .i64 0,.int .i64 0,.int .i64 0,.slice none 0 0,.slice none 0 0,.slice none 0 0]):=by kernel_rfl
theorem zBc:y9 prog 239 [.int .i64 0,.int .i64 0,.int .i64 0,.int .i64 0,.nils,.nils,.nils]:=⟨_,zBb,rfl⟩
theorem zBd:(prog.info? 282).bind (·.zero)=some (.agg #[.int .i64 0,.int .i64 0,.int .i64 0,.int .i64 0,.int .i64 0,.int .i64 0]):=by kernel_rfl
theorem zBe:y9 prog 282 [.int .i64 0,.int .i64 0,.int .i64 0,.int .i64 0,.int .i64 0,.int .i64 0]:=⟨_,zBd,rfl⟩
theorem zBf:(prog.info? 299).bind (·.zero)=some (.nilFunc):=by kernel_rfl
theorem zBg:y9 prog 299 [.nilf]:=⟨_,zBf,rfl⟩
theorem zBh:(prog.info? 311).bind (·.zero)=some (.slice none 0 0):=by kernel_rfl
theorem zBi:y9 prog 311 [.nils]:=⟨_,zBh,rfl⟩
theorem zpq:(prog.info? 317).bind (·.zero)=some (.agg #[.int .i64 0,.int .i64 0,.int .i64 0,.int .i64 0,.bool false,.int .i64 0,.int .i64 0]):=by kernel_rfl
theorem zsf:y9 prog 317 [.int .i64 0,.int .i64 0,.int .i64 0,.int .i64 0,.bool false,.int .i64 0,.int .i64 0]:=⟨_,zpq,rfl⟩
theorem zBj:(prog.info? 322).bind (·.zero)=some (.agg #[.int .i64 0,.int .i64 0,.int .i64 0,.slice none 0 0,.slice none 0 0,.slice none 0 0,.slice none 0 0]):=by kernel_rfl
theorem zBk:y9 prog 322 [.int .i64 0,.int .i64 0,.int .i64 0,.nils,.nils,.nils,.nils]:=⟨_,zBj,rfl⟩
theorem zBl:(prog.info? 324).bind (·.zero)=some (.nilFunc):=by kernel_rfl
theorem zBm:y9 prog 324 [.nilf]:=⟨_,zBl,rfl⟩
theorem zBn:(prog.info? 332).bind (·.zero)=some (.agg #[.slice none 0 0]):=by kernel_rfl
theorem zBo:y9 prog 332 [.nils]:=⟨_,zBn,rfl⟩
theorem zBp:(prog.info? 335).bind (·.zero)=some (.agg #[.slice none 0 0,.int .i64 0,.int .i64 0,.int .i64 0,.map none]):=by kernel_rfl
theorem zvM:(prog.info? 357).bind (·.zero)=some (.agg #[.int .i64 0,.int .i64 0,.int .i64 0]):=by kernel_rfl
theorem zBq:y9 prog 357 [.int .i64 0,.int .i64 0,.int .i64 0]:=⟨_,zvM,rfl⟩
theorem zBr:(prog.info? 367).bind (·.zero)=some (.agg #[.nilFunc,.int .i64 0,.int .i64 0]):=by kernel_rfl
theorem zBs:(prog.info? 368).bind (·.zero)=some (.agg #[.nilFunc,.int .i64 0,.int .i64 0,.nilFunc,.int .i64 0,.int .i64 0,.nilFunc,.int .i64 0,.int .i64 0,.nilFunc,.int .i64 0,.int .i64 0,.nilFunc,.int .i64 0,.int .i64 0]):=by kernel_rfl
theorem zBt:y9 prog 368 [.nilf,.int .i64 0,.int .i64 0,.nilf,.int .i64 0,.int .i64 0,.nilf,.int .i64 0,.int .i64 0,.nilf,.int .i64 0,.int .i64 0,.nilf,.int .i64 0,.int .i64 0]:=⟨_,zBs,rfl⟩
theorem zBu:(prog.info? 379).bind (·.zero)=some (.agg #[.int .i64 0,.int .i64 0,.bool false]):=by kernel_rfl
theorem zBv:y9 prog 379 [.int .i64 0,.int .i64 0,.bool false]:=⟨_,zBu,rfl⟩
theorem zBw:(prog.info? 386).bind (·.zero)=some (.agg #[.bool false,.bool false,.bool false]):=by kernel_rfl
theorem zBx:y9 prog 386 [.bool false,.bool false,.bool false]:=⟨_,zBw,rfl⟩
theorem zBy:(prog.info? 387).bind (·.zero)=some (.agg #[.bool false,.bool false,.bool false,.bool false,.bool false,.bool false,.bool false,.bool false,.bool false,.bool false,.bool false,.bool false,.bool false,.bool false,.bool false]):=by kernel_rfl
theorem zvN:y9 prog 387 [.bool false,.bool false,.bool false,.bool false,.bool false,.bool false,.bool false,.bool false,.bool false,.bool false,.bool false,.bool false,.bool false,.bool false,.bool false]:=⟨_,zBy,rfl⟩
theorem ti3:zz prog 3 (.int .i64 0) 1 8:=zu (by kernel_rfl) rfl
theorem ti4:zz prog 4 (.bool false) 1 1:=zu (by kernel_rfl) rfl
theorem ti24:zz prog 24 (.slice none 0 0) 1 24:=zu (by kernel_rfl) rfl
theorem ti32:zz prog 32 (.agg #[.bool false,.bool false,.bool false]) 3 3:=zu (by kernel_rfl) rfl
theorem ti33:zz prog 33 (.slice none 0 0) 1 24:=zu (by kernel_rfl) rfl
theorem ti46:zz prog 46 (.slice none 0 0) 1 24:=zu (by kernel_rfl) rfl
theorem ti56:zz prog 56 (.slice none 0 0) 1 24:=zu (by kernel_rfl) rfl
theorem ti83:zz prog 83 (.agg #[.int .i64 0,.int .i64 0]) 2 16:=zu (by kernel_rfl) rfl
theorem ti90:zz prog 90 (.agg #[.int .i64 0,.int .i64 0,.int .i64 0,.int .i64 0,.bool false,.int .i64 0,.bool false,.bool false,.int .i64 0,.int .i64 0,.int .i64 0,.int .i64 0,.bool false,.int .i64 0,.int .i64 0,.int .i64 0,.int .i64 0]) 17 128:=zu (by kernel_rfl) rfl
theorem zBz:zz prog 100 (.agg #[.int .i64 0,.int .i64 0,.bool false]) 3 24:=zu (by kernel_rfl) rfl
theorem zBA:zz prog 125 (.agg #[.int .i64 0,.int .i64 0,.slice none 0 0]) 3 40:=zu (by kernel_rfl) rfl
theorem zBB:zz prog 155 (.agg #[.int .i64 0,.bool false,.bool false,.bool false,.int .i64 0]) 5 24:=zu (by kernel_rfl) rfl
theorem zBC:zz prog 158 (.agg #[.int .i64 0,.bool false,.bool false]) 3 16:=zu (by kernel_rfl) rfl
theorem zvO:zz prog 183 (.agg #[.int .i64 0,.int .i64 0,.bool false,.bool false,.bool false,.int .i64 0,.int .i64 0,.int .i64 0,.int .i64 0,.int .i64 0,.int .i64 0,.int .i64 0]) 12 80:=zu (by kernel_rfl) rfl
theorem zBD:zz prog 317 (.agg #[.int .i64 0,.int .i64 0,.int .i64 0,.int .i64 0,.bool false,.int .i64 0,.int .i64 0]) 7 56:=zu (by kernel_rfl) rfl
theorem zBE:zz prog 357 (.agg #[.int .i64 0,.int .i64 0,.int .i64 0]) 3 24:=zu (by kernel_rfl) rfl
theorem sl24:slOk prog 24 100=true:=by kernel_rfl
theorem sl27:slOk prog 27 32=true:=by kernel_rfl
theorem sl33:slOk prog 33 90=true:=by kernel_rfl
theorem sl46:slOk prog 46 3=true:=by kernel_rfl
theorem sl50:slOk prog 50 83=true:=by kernel_rfl
theorem sl56:slOk prog 56 33=true:=by kernel_rfl
theorem sl65:slOk prog 65 24=true:=by kernel_rfl
theorem zfg:slOk prog 107 4=true:=by kernel_rfl
theorem zm8:slOk prog 112 56=true:=by kernel_rfl
theorem zBF:slOk prog 123 125=true:=by kernel_rfl
theorem zBG:slOk prog 150 155=true:=by kernel_rfl
theorem zBH:slOk prog 159 158=true:=by kernel_rfl
theorem zh4:slOk prog 177 183=true:=by kernel_rfl
theorem zvP:slOk prog 272 46=true:=by kernel_rfl
theorem zsg:slOk prog 311 317=true:=by kernel_rfl
theorem zBI:slOk prog 354 357=true:=by kernel_rfl
theorem zxQ:yV prog 23 0 0=true:=by kernel_rfl
theorem zxR:yV prog 23 1 1=true:=by kernel_rfl
theorem zxS:yV prog 23 2 2=true:=by kernel_rfl
theorem zxT:yV prog 23 3 3=true:=by kernel_rfl
theorem zxU:yV prog 32 0 0=true:=by kernel_rfl
theorem zxV:yV prog 32 1 1=true:=by kernel_rfl
theorem zxW:yV prog 32 2 2=true:=by kernel_rfl
theorem zxX:yV prog 75 3 3=true:=by kernel_rfl
theorem zxY:yV prog 83 0 0=true:=by kernel_rfl
theorem zxZ:yV prog 83 1 1=true:=by kernel_rfl
theorem zx0:yV prog 90 0 0=true:=by kernel_rfl
theorem zx1:yV prog 90 1 1=true:=by kernel_rfl
theorem zx2:yV prog 90 4 4=true:=by kernel_rfl
theorem ztR:yV prog 100 0 0=true:=by kernel_rfl
theorem ztS:yV prog 100 1 2=true:=by kernel_rfl
theorem ztT:yV prog 125 0 0=true:=by kernel_rfl
theorem ztU:yV prog 125 1 1=true:=by kernel_rfl
theorem ztV:yV prog 125 2 2=true:=by kernel_rfl
theorem ztW:yV prog 155 0 0=true:=by kernel_rfl
theorem ztX:yV prog 155 1 1=true:=by kernel_rfl
theorem ztY:yV prog 155 2 2=true:=by kernel_rfl
theorem ztZ:yV prog 155 3 3=true:=by kernel_rfl
theorem zt0:yV prog 155 4 4=true:=by kernel_rfl
theorem zt1:yV prog 158 0 0=true:=by kernel_rfl
theorem zt2:yV prog 158 1 1=true:=by kernel_rfl
theorem zt3:yV prog 158 2 2=true:=by kernel_rfl
theorem zt4:yV prog 183 1 1=true:=by kernel_rfl
theorem zt5:yV prog 183 2 2=true:=by kernel_rfl
theorem zt6:yV prog 183 3 3=true:=by kernel_rfl
theorem zt7:yV prog 183 4 4=true:=by kernel_rfl
theorem zt8:yV prog 183 5 5=true:=by kernel_rfl
theorem zt9:yV prog 183 6 6=true:=by kernel_rfl
theorem zua:yV prog 183 7 8=true:=by kernel_rfl
theorem zub:yV prog 183 8 10=true:=by kernel_rfl
theorem zuc:yV prog 215 0 0=true:=by kernel_rfl
theorem zud:yV prog 215 1 1=true:=by kernel_rfl
theorem zue:yV prog 215 2 2=true:=by kernel_rfl
theorem zuf:yV prog 215 3 3=true:=by kernel_rfl
theorem zug:yV prog 234 0 0=true:=by kernel_rfl
theorem zuh:yV prog 239 0 0=true:=by kernel_rfl
theorem zui:yV prog 239 1 4=true:=by kernel_rfl
theorem zuj:yV prog 239 2 5=true:=by kernel_rfl
theorem zuk:yV prog 239 3 6=true:=by kernel_rfl
theorem zul:yV prog 317 0 0=true:=by kernel_rfl
theorem zum:yV prog 317 1 1=true:=by kernel_rfl
theorem zun:yV prog 317 2 2=true:=by kernel_rfl
theorem zuo:yV prog 317 3 3=true:=by kernel_rfl
theorem zup:yV prog 317 4 4=true:=by kernel_rfl
theorem zuq:yV prog 317 5 5=true:=by kernel_rfl
theorem zur:yV prog 322 0 0=true:=by kernel_rfl
theorem zus:yV prog 322 1 2=true:=by kernel_rfl
theorem zut:yV prog 322 2 3=true:=by kernel_rfl
theorem zuu:yV prog 322 3 4=true:=by kernel_rfl
theorem zuv:yV prog 322 4 5=true:=by kernel_rfl
theorem zuw:yV prog 322 5 6=true:=by kernel_rfl
theorem zux:yV prog 332 0 0=true:=by kernel_rfl
theorem zuy:yV prog 335 0 0=true:=by kernel_rfl
theorem zuz:yV prog 335 1 1=true:=by kernel_rfl
theorem zuA:yV prog 335 2 2=true:=by kernel_rfl
theorem zuB:yV prog 335 3 4=true:=by kernel_rfl
theorem zuC:yV prog 357 0 0=true:=by kernel_rfl
theorem zuD:yV prog 357 1 1=true:=by kernel_rfl
theorem zuE:yV prog 357 2 2=true:=by kernel_rfl
theorem zuF:yV prog 367 0 0=true:=by kernel_rfl
theorem zuG:yV prog 367 1 1=true:=by kernel_rfl
theorem zuH:yV prog 367 2 2=true:=by kernel_rfl
theorem zuI:yV prog 379 0 0=true:=by kernel_rfl
theorem zuJ:yV prog 379 1 1=true:=by kernel_rfl
theorem zuK:yV prog 379 2 2=true:=by kernel_rfl
theorem pl23:zY prog 23=some [(0,1),(1,1),(2,1),(3,1)]:=by kernel_rfl
theorem ia23:zr prog 23=true:=by kernel_rfl
theorem pl32:zY prog 32=some [(0,1),(1,1),(2,1)]:=by kernel_rfl
theorem ia32:zr prog 32=true:=by kernel_rfl
theorem pl75:zY prog 75=some [(0,1),(1,1),(2,1),(3,1)]:=by kernel_rfl
theorem ia75:zr prog 75=true:=by kernel_rfl
theorem pl83:zY prog 83=some [(0,1),(1,1)]:=by kernel_rfl
theorem ia83:zr prog 83=true:=by kernel_rfl
theorem pl90:zY prog 90=some [(0,1),(1,1),(2,1),(3,1),(4,1),(5,1),(6,1),(7,1),(8,4),(12,1),(13,1),(14,1),(15,2)]:=by kernel_rfl
theorem ia90:zr prog 90=true:=by kernel_rfl
theorem zBJ:zY prog 100=some [(0,2),(2,1)]:=by kernel_rfl
theorem zBK:zr prog 100=true:=by kernel_rfl
theorem zBL:zY prog 125=some [(0,1),(1,1),(2,1)]:=by kernel_rfl
theorem zBM:zr prog 125=true:=by kernel_rfl
theorem zBN:zY prog 155=some [(0,1),(1,1),(2,1),(3,1),(4,1)]:=by kernel_rfl
theorem zBO:zr prog 155=true:=by kernel_rfl
theorem zBP:zY prog 158=some [(0,1),(1,1),(2,1)]:=by kernel_rfl
theorem zBQ:zr prog 158=true:=by kernel_rfl
theorem zBR:zY prog 183=some [(0,1),(1,1),(2,1),(3,1),(4,1),(5,1),(6,2),(8,2),(10,2)]:=by kernel_rfl
theorem zBS:zr prog 183=true:=by kernel_rfl
theorem zBT:zY prog 215=some [(0,1),(1,1),(2,1),(3,1)]:=by kernel_rfl
theorem zBU:zr prog 215=true:=by kernel_rfl
theorem zBV:zY prog 234=some [(0,1)]:=by kernel_rfl
theorem zBW:zr prog 234=true:=by kernel_rfl
theorem zBX:zY prog 239=some [(0,4),(4,1),(5,1),(6,1)]:=by kernel_rfl
theorem zBY:zr prog 239=true:=by kernel_rfl
theorem zBZ:zY prog 317=some [(0,1),(1,1),(2,1),(3,1),(4,1),(5,2)]:=by kernel_rfl
theorem zB0:zr prog 317=true:=by kernel_rfl
theorem zB1:zY prog 322=some [(0,2),(2,1),(3,1),(4,1),(5,1),(6,1)]:=by kernel_rfl
theorem zB2:zr prog 322=true:=by kernel_rfl
theorem zB3:zY prog 332=some [(0,1)]:=by kernel_rfl
theorem zB4:zr prog 332=true:=by kernel_rfl
theorem zB5:zY prog 335=some [(0,1),(1,1),(2,2),(4,1)]:=by kernel_rfl
theorem zB6:zr prog 335=true:=by kernel_rfl
theorem zB7:zY prog 357=some [(0,1),(1,1),(2,1)]:=by kernel_rfl
theorem zB8:zr prog 357=true:=by kernel_rfl
theorem zB9:zY prog 367=some [(0,1),(1,1),(2,1)]:=by kernel_rfl
theorem zCa:zr prog 367=true:=by kernel_rfl
theorem zCb:zY prog 379=some [(0,1),(1,1),(2,1)]:=by kernel_rfl
theorem zCc:zr prog 379=true:=by kernel_rfl
theorem ar94:zdA prog 94 8 4=true:=by kernel_rfl
theorem zsh:zdA prog 210 4 3=true:=by kernel_rfl
theorem zCd:zdA prog 216 9 215=true:=by kernel_rfl
theorem zCe:zdA prog 282 3 83=true:=by kernel_rfl
theorem zCf:zdA prog 368 5 367=true:=by kernel_rfl
theorem zCg:zdA prog 386 3 4=true:=by kernel_rfl
theorem zCh:zdA prog 387 5 386=true:=by kernel_rfl
theorem eqo32:(eqOk prog 5 32&&decide (5<=10000))=true:=by kernel_rfl
theorem fl32:flat prog 5 32=[2,2,2]:=by kernel_rfl
theorem zCi:(eqOk prog 5 83&&decide (5<=10000))=true:=by kernel_rfl
theorem fl83:flat prog 5 83=[1,1]:=by kernel_rfl
theorem eqo90:(eqOk prog 5 90&&decide (5<=10000))=true:=by kernel_rfl
theorem fl90:flat prog 5 90=[1,1,1,1,2,1,2,2,1,1,1,1,2,1,1,1,1]:=by kernel_rfl
theorem eqo100:(eqOk prog 5 100&&decide (5<=10000))=true:=by kernel_rfl
theorem fl100:flat prog 5 100=[1,1,2]:=by kernel_rfl
theorem eq32:(eqOk prog 5 32&&decide (5<=10000))=true:=eqo32
theorem eg32:prog.eqGuardType prog.depth 32=false:=by kernel_rfl
theorem eq83:(eqOk prog 5 83&&decide (5<=10000))=true:=zCi
theorem eg83:prog.eqGuardType prog.depth 83=false:=by kernel_rfl
theorem eq90:(eqOk prog 5 90&&decide (5<=10000))=true:=eqo90
theorem eg90:prog.eqGuardType prog.depth 90=false:=by kernel_rfl
theorem zCj:(eqOk prog 5 100&&decide (5<=10000))=true:=eqo100
theorem zCk:prog.eqGuardType prog.depth 100=false:=by kernel_rfl
theorem mo:prog.follows .mixedOrders=true:=by kernel_rfl
end Go.Rse
