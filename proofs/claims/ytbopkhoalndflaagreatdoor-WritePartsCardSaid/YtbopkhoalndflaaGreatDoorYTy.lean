/-
  zf9 facts on the types, fields and functions of the translation: printed by program (genty.py).
-/
import Derived.Test.YtbopkhoalndflaaGreatDoorProg
import Derived.Test.YtbopkhoalndflaaGreatDoorYLogA
import Derived.KernelRfl
set_option linter.all false
namespace Go.Rse
open Go Go.Proofs Go.Proofs.Tryz
theorem ty3:tyOk prog 3 false 1=true:=by kernel_rfl
theorem ty4:tyOk prog 4 false 1=true:=by kernel_rfl
theorem ty9:tyOk prog 9 false 1=true:=by kernel_rfl
theorem ty23:tyOk prog 23 true 4=true:=by kernel_rfl
theorem ty24:tyOk prog 24 false 1=true:=by kernel_rfl
theorem ty28:tyOk prog 28 false 1=true:=by kernel_rfl
theorem ty32:tyOk prog 32 true 3=true:=by kernel_rfl
theorem ty33:tyOk prog 33 false 1=true:=by kernel_rfl
theorem ty46:tyOk prog 46 false 1=true:=by kernel_rfl
theorem ty50:tyOk prog 50 false 1=true:=by kernel_rfl
theorem ty56:tyOk prog 56 false 1=true:=by kernel_rfl
theorem ty69:tyOk prog 69 true 2=true:=by kernel_rfl
theorem ty75:tyOk prog 75 true 4=true:=by kernel_rfl
theorem ty83:tyOk prog 83 true 2=true:=by kernel_rfl
theorem ty90:tyOk prog 90 true 17=true:=by kernel_rfl
theorem zfK:tyOk prog 100 true 3=true:=by kernel_rfl
theorem zdb:tyOk prog 107 false 1=true:=by kernel_rfl
theorem zvf:tyOk prog 155 true 5=true:=by kernel_rfl
theorem zvg:tyOk prog 158 true 3=true:=by kernel_rfl
theorem zzD:tyOk prog 177 false 1=true:=by kernel_rfl
theorem zkl:tyOk prog 183 true 12=true:=by kernel_rfl
theorem zzE:tyOk prog 184 false 1=true:=by kernel_rfl
theorem zvh:tyOk prog 210 true 4=true:=by kernel_rfl
theorem zzF:tyOk prog 213 false 1=true:=by kernel_rfl
theorem zzG:tyOk prog 215 true 4=true:=by kernel_rfl
theorem zvi:tyOk prog 216 true 36=true:=by kernel_rfl
theorem zzH:tyOk prog 234 true 1=true:=by kernel_rfl
theorem zzI:tyOk prog 299 false 1=true:=by kernel_rfl
theorem zzJ:tyOk prog 311 false 1=true:=by kernel_rfl
theorem zrE:tyOk prog 317 true 7=true:=by kernel_rfl
theorem zzK:tyOk prog 324 false 1=true:=by kernel_rfl
theorem zzL:tyOk prog 327 false 1=true:=by kernel_rfl
theorem zzM:tyOk prog 332 true 1=true:=by kernel_rfl
theorem zzN:tyOk prog 333 false 1=true:=by kernel_rfl
theorem zzO:tyOk prog 357 true 3=true:=by kernel_rfl
theorem zzP:tyOk prog 365 false 1=true:=by kernel_rfl
theorem zzQ:tyOk prog 367 true 3=true:=by kernel_rfl
theorem zvj:tyOk prog 368 true 15=true:=by kernel_rfl
theorem zzR:tyOk prog 379 true 3=true:=by kernel_rfl
theorem zzS:tyOk prog 386 true 3=true:=by kernel_rfl
theorem zzT:tyOk prog 387 true 15=true:=by kernel_rfl
theorem ze3:(prog.info? 3).bind (·.zero)=some (.int .i64 0):=by kernel_rfl
theorem zc3:ze prog 3 [.int .i64 0]:=⟨_,ze3,rfl⟩
theorem ze4:(prog.info? 4).bind (·.zero)=some (.bool false):=by kernel_rfl
theorem zc4:ze prog 4 [.bool false]:=⟨_,ze4,rfl⟩
theorem ze23:(prog.info? 23).bind (·.zero)=some (.agg #[.int .i64 0,.int .i64 0,.int .i64 0,.int .i64 0]):=by kernel_rfl
theorem zc23:ze prog 23 [.int .i64 0,.int .i64 0,.int .i64 0,.int .i64 0]:=⟨_,ze23,rfl⟩
theorem ze24:(prog.info? 24).bind (·.zero)=some (.slice none 0 0):=by kernel_rfl
theorem ze28:(prog.info? 28).bind (·.zero)=some (.int .i64 0):=by kernel_rfl
theorem zc28:ze prog 28 [.int .i64 0]:=⟨_,ze28,rfl⟩
theorem ze32:(prog.info? 32).bind (·.zero)=some (.agg #[.bool false,.bool false,.bool false]):=by kernel_rfl
theorem zc32:ze prog 32 [.bool false,.bool false,.bool false]:=⟨_,ze32,rfl⟩
theorem ze33:(prog.info? 33).bind (·.zero)=some (.slice none 0 0):=by kernel_rfl
theorem ze46:(prog.info? 46).bind (·.zero)=some (.slice none 0 0):=by kernel_rfl
theorem zc46:ze prog 46 [.nils]:=⟨_,ze46,rfl⟩
theorem ze50:(prog.info? 50).bind (·.zero)=some (.slice none 0 0):=by kernel_rfl
theorem zc50:ze prog 50 [.nils]:=⟨_,ze50,rfl⟩
theorem ze56:(prog.info? 56).bind (·.zero)=some (.slice none 0 0):=by kernel_rfl
theorem ze69:(prog.info? 69).bind (·.zero)=some (.agg #[.string ⟨#[]⟩,.slice none 0 0]):=by kernel_rfl
theorem zc69:ze prog 69 [.str ⟨#[]⟩,.nils]:=⟨_,ze69,rfl⟩
theorem ze75:(prog.info? 75).bind (·.zero)=some (.agg #[.slice none 0 0,.slice none 0 0,.slice none 0 0,.slice none 0 0]):=by kernel_rfl
theorem zc75:ze prog 75 [.nils,.nils,.nils,.nils]:=⟨_,ze75,rfl⟩
theorem ze83:(prog.info? 83).bind (·.zero)=some (.agg #[.int .i64 0,.int .i64 0]):=by kernel_rfl
theorem zc83:ze prog 83 [.int .i64 0,.int .i64 0]:=⟨_,ze83,rfl⟩
theorem ze90:(prog.info? 90).bind (·.zero)=some (.agg #[.int .i64 0,.int .i64 0,.int .i64 0,.int .i64 0,.bool false,.int .i64 0,.bool false,.bool false,.int .i64 0,.int .i64 0,.int .i64 0,.int .i64 0,.bool false,.int .i64 0,.int .i64 0,.int .i64 0,.int .i64 0]):=by kernel_rfl
theorem zc90:ze prog 90 [.int .i64 0,.int .i64 0,.int .i64 0,.int .i64 0,.bool false,.int .i64 0,.bool false,.bool false,.int .i64 0,.int .i64 0,.int .i64 0,.int .i64 0,.bool false,.int .i64 0,.int .i64 0,.int .i64 0,.int .i64 0]:=⟨_,ze90,rfl⟩
theorem zjn:(prog.info? 100).bind (·.zero)=some (.agg #[.int .i64 0,.int .i64 0,.bool false]):=by kernel_rfl
theorem zzU:ze prog 100 [.int .i64 0,.int .i64 0,.bool false]:=⟨_,zjn,rfl⟩
theorem zzV:(prog.info? 107).bind (·.zero)=some (.slice none 0 0):=by kernel_rfl
theorem zzW:ze prog 107 [.nils]:=⟨_,zzV,rfl⟩
theorem zvk:(prog.info? 155).bind (·.zero)=some (.agg #[.int .i64 0,.bool false,.bool false,.bool false,.int .i64 0]):=by kernel_rfl
theorem zzX:ze prog 155 [.int .i64 0,.bool false,.bool false,.bool false,.int .i64 0]:=⟨_,zvk,rfl⟩
theorem zvl:(prog.info? 158).bind (·.zero)=some (.agg #[.int .i64 0,.bool false,.bool false]):=by kernel_rfl
theorem zzY:ze prog 158 [.int .i64 0,.bool false,.bool false]:=⟨_,zvl,rfl⟩
theorem zzZ:(prog.info? 171).bind (·.zero)=some (.agg #[.string ⟨#[]⟩,.slice none 0 0,.int .i64 0,.int .i64 0,.int .i64 0,.int .i64 0,.int .i64 0,.bool false,.bool false]):=by kernel_rfl
theorem zz0:ze prog 171 [.str ⟨#[]⟩,.nils,.int .i64 0,.int .i64 0,.int .i64 0,.int .i64 0,.int .i64 0,.bool false,.bool false]:=⟨_,zzZ,rfl⟩
theorem zz1:(prog.info? 177).bind (·.zero)=some (.slice none 0 0):=by kernel_rfl
theorem zz2:ze prog 177 [.nils]:=⟨_,zz1,rfl⟩
theorem zrF:(prog.info? 183).bind (·.zero)=some (.agg #[.int .i64 0,.int .i64 0,.bool false,.bool false,.bool false,.int .i64 0,.int .i64 0,.int .i64 0,.int .i64 0,.int .i64 0,.int .i64 0,.int .i64 0]):=by kernel_rfl
theorem zgZ:ze prog 183 [.int .i64 0,.int .i64 0,.bool false,.bool false,.bool false,.int .i64 0,.int .i64 0,.int .i64 0,.int .i64 0,.int .i64 0,.int .i64 0,.int .i64 0]:=⟨_,zrF,rfl⟩
theorem zz3:(prog.info? 210).bind (·.zero)=some (.agg #[.int .i64 0,.int .i64 0,.int .i64 0,.int .i64 0]):=by kernel_rfl
theorem zz4:ze prog 210 [.int .i64 0,.int .i64 0,.int .i64 0,.int .i64 0]:=⟨_,zz3,rfl⟩
theorem zz5:(prog.info? 215).bind (·.zero)=some (.agg #[.bool false,.bool false,.bool false,.nilFunc]):=by kernel_rfl
theorem zz6:ze prog 215 [.bool false,.bool false,.bool false,.nilf]:=⟨_,zz5,rfl⟩
theorem zz7:(prog.info? 216).bind (·.zero)=some (.agg #[.bool false,.bool false,.bool false,.nilFunc,.bool false,.bool false,.bool false,.nilFunc,.bool false,.bool false,.bool false,.nilFunc,.bool false,.bool false,.bool false,.nilFunc,.bool false,.bool false,.bool false,.nilFunc,.bool false,.bool false,.bool false,.nilFunc,.bool false,.bool false,.bool false,.nilFunc,.bool false,.bool false,.bool false,.nilFunc,.bool false,.bool false,.bool false,.nilFunc]):=by kernel_rfl
theorem zz8:ze prog 216 [.bool false,.bool false,.bool false,.nilf,.bool false,.bool false,.bool false,.nilf,.bool false,.bool false,.bool false,.nilf,.bool false,.bool false,.bool false,.nilf,.bool false,.bool false,.bool false,.nilf,.bool false,.bool false,.bool false,.nilf,.bool false,.bool false,.bool false,.nilf,.bool false,.bool false,.bool false,.nilf,.bool false,.bool false,.bool false,.nilf]:=⟨_,zz7,rfl⟩
theorem zz9:(prog.info? 234).bind (·.zero)=some (.agg #[.int .i64 0]):=by kernel_rfl
theorem zAa:ze prog 234 [.int .i64 0]:=⟨_,zz9,rfl⟩
theorem zAb:(prog.info? 239).bind (·.zero)=some (.agg #[.int .i64 0,.int .i64 0,.int .i64 0,.int .i64 0,.slice none 0 0,.slice none 0 0,.slice none 0 0]):=by kernel_rfl
theorem zAc:ze prog 239 [.int .i64 0,.int .i64 0,.int .i64 0,.int .i64 0,.nils,.nils,.nils]:=⟨_,zAb,rfl⟩
theorem zAd:(prog.info? 282).bind (·.zero)=some (.agg #[.int .i64 0,.int .i64 0,.int .i64 0,.int .i64 0,.int .i64 0,.int .i64 0]):=by kernel_rfl
theorem zAe:ze prog 282 [.int .i64 0,.int .i64 0,.int .i64 0,.int .i64 0,.int .i64 0,.int .i64 0]:=⟨_,zAd,rfl⟩
theorem zAf:(prog.info? 299).bind (·.zero)=some (.nilFunc):=by kernel_rfl
theorem zAg:ze prog 299 [.nilf]:=⟨_,zAf,rfl⟩
theorem zAh:(prog.info? 311).bind (·.zero)=some (.slice none 0 0):=by kernel_rfl
theorem zAi:ze prog 311 [.nils]:=⟨_,zAh,rfl⟩
theorem zoL:(prog.info? 317).bind (·.zero)=some (.agg #[.int .i64 0,.int .i64 0,.int .i64 0,.int .i64 0,.bool false,.int .i64 0,.int .i64 0]):=by kernel_rfl
theorem zrG:ze prog 317 [.int .i64 0,.int .i64 0,.int .i64 0,.int .i64 0,.bool false,.int .i64 0,.int .i64 0]:=⟨_,zoL,rfl⟩
theorem zAj:(prog.info? 322).bind (·.zero)=some (.agg #[.int .i64 0,.int .i64 0,.int .i64 0,.slice none 0 0,.slice none 0 0,.slice none 0 0,.slice none 0 0]):=by kernel_rfl
theorem zAk:ze prog 322 [.int .i64 0,.int .i64 0,.int .i64 0,.nils,.nils,.nils,.nils]:=⟨_,zAj,rfl⟩
theorem zAl:(prog.info? 324).bind (·.zero)=some (.nilFunc):=by kernel_rfl
theorem zAm:ze prog 324 [.nilf]:=⟨_,zAl,rfl⟩
theorem zAn:(prog.info? 332).bind (·.zero)=some (.agg #[.slice none 0 0]):=by kernel_rfl
theorem zAo:ze prog 332 [.nils]:=⟨_,zAn,rfl⟩
theorem zAp:(prog.info? 335).bind (·.zero)=some (.agg #[.slice none 0 0,.int .i64 0,.int .i64 0,.int .i64 0,.map none]):=by kernel_rfl
theorem zvm:(prog.info? 357).bind (·.zero)=some (.agg #[.int .i64 0,.int .i64 0,.int .i64 0]):=by kernel_rfl
theorem zAq:ze prog 357 [.int .i64 0,.int .i64 0,.int .i64 0]:=⟨_,zvm,rfl⟩
theorem zAr:(prog.info? 367).bind (·.zero)=some (.agg #[.nilFunc,.int .i64 0,.int .i64 0]):=by kernel_rfl
theorem zAs:(prog.info? 368).bind (·.zero)=some (.agg #[.nilFunc,.int .i64 0,.int .i64 0,.nilFunc,.int .i64 0,.int .i64 0,.nilFunc,.int .i64 0,.int .i64 0,.nilFunc,.int .i64 0,.int .i64 0,.nilFunc,.int .i64 0,.int .i64 0]):=by kernel_rfl
theorem zAt:ze prog 368 [.nilf,.int .i64 0,.int .i64 0,.nilf,.int .i64 0,.int .i64 0,.nilf,.int .i64 0,.int .i64 0,.nilf,.int .i64 0,.int .i64 0,.nilf,.int .i64 0,.int .i64 0]:=⟨_,zAs,rfl⟩
theorem zAu:(prog.info? 379).bind (·.zero)=some (.agg #[.int .i64 0,.int .i64 0,.bool false]):=by kernel_rfl
theorem zAv:ze prog 379 [.int .i64 0,.int .i64 0,.bool false]:=⟨_,zAu,rfl⟩
theorem zAw:(prog.info? 386).bind (·.zero)=some (.agg #[.bool false,.bool false,.bool false]):=by kernel_rfl
theorem zAx:ze prog 386 [.bool false,.bool false,.bool false]:=⟨_,zAw,rfl⟩
theorem zAy:(prog.info? 387).bind (·.zero)=some (.agg #[.bool false,.bool false,.bool false,.bool false,.bool false,.bool false,.bool false,.bool false,.bool false,.bool false,.bool false,.bool false,.bool false,.bool false,.bool false]):=by kernel_rfl
theorem zvn:ze prog 387 [.bool false,.bool false,.bool false,.bool false,.bool false,.bool false,.bool false,.bool false,.bool false,.bool false,.bool false,.bool false,.bool false,.bool false,.bool false]:=⟨_,zAy,rfl⟩
theorem ti3:zX prog 3 (.int .i64 0) 1 8:=zI (by kernel_rfl) rfl
theorem ti4:zX prog 4 (.bool false) 1 1:=zI (by kernel_rfl) rfl
theorem ti24:zX prog 24 (.slice none 0 0) 1 24:=zI (by kernel_rfl) rfl
theorem ti33:zX prog 33 (.slice none 0 0) 1 24:=zI (by kernel_rfl) rfl
theorem ti46:zX prog 46 (.slice none 0 0) 1 24:=zI (by kernel_rfl) rfl
theorem ti56:zX prog 56 (.slice none 0 0) 1 24:=zI (by kernel_rfl) rfl
theorem ti83:zX prog 83 (.agg #[.int .i64 0,.int .i64 0]) 2 16:=zI (by kernel_rfl) rfl
theorem ti90:zX prog 90 (.agg #[.int .i64 0,.int .i64 0,.int .i64 0,.int .i64 0,.bool false,.int .i64 0,.bool false,.bool false,.int .i64 0,.int .i64 0,.int .i64 0,.int .i64 0,.bool false,.int .i64 0,.int .i64 0,.int .i64 0,.int .i64 0]) 17 128:=zI (by kernel_rfl) rfl
theorem zAz:zX prog 100 (.agg #[.int .i64 0,.int .i64 0,.bool false]) 3 24:=zI (by kernel_rfl) rfl
theorem zAA:zX prog 155 (.agg #[.int .i64 0,.bool false,.bool false,.bool false,.int .i64 0]) 5 24:=zI (by kernel_rfl) rfl
theorem zAB:zX prog 158 (.agg #[.int .i64 0,.bool false,.bool false]) 3 16:=zI (by kernel_rfl) rfl
theorem zvo:zX prog 183 (.agg #[.int .i64 0,.int .i64 0,.bool false,.bool false,.bool false,.int .i64 0,.int .i64 0,.int .i64 0,.int .i64 0,.int .i64 0,.int .i64 0,.int .i64 0]) 12 80:=zI (by kernel_rfl) rfl
theorem zAC:zX prog 317 (.agg #[.int .i64 0,.int .i64 0,.int .i64 0,.int .i64 0,.bool false,.int .i64 0,.int .i64 0]) 7 56:=zI (by kernel_rfl) rfl
theorem zAD:zX prog 357 (.agg #[.int .i64 0,.int .i64 0,.int .i64 0]) 3 24:=zI (by kernel_rfl) rfl
theorem sl24:slOk prog 24 100=true:=by kernel_rfl
theorem sl33:slOk prog 33 90=true:=by kernel_rfl
theorem sl46:slOk prog 46 3=true:=by kernel_rfl
theorem sl50:slOk prog 50 83=true:=by kernel_rfl
theorem sl56:slOk prog 56 33=true:=by kernel_rfl
theorem sl65:slOk prog 65 24=true:=by kernel_rfl
theorem zeZ:slOk prog 107 4=true:=by kernel_rfl
theorem zrH:slOk prog 112 56=true:=by kernel_rfl
theorem zAE:slOk prog 150 155=true:=by kernel_rfl
theorem zAF:slOk prog 159 158=true:=by kernel_rfl
theorem zhB:slOk prog 177 183=true:=by kernel_rfl
theorem zvp:slOk prog 272 46=true:=by kernel_rfl
theorem zrI:slOk prog 311 317=true:=by kernel_rfl
theorem zAG:slOk prog 354 357=true:=by kernel_rfl
theorem zxd:yT prog 23 0 0=true:=by kernel_rfl
theorem zxe:yT prog 23 1 1=true:=by kernel_rfl
theorem zxf:yT prog 23 2 2=true:=by kernel_rfl
theorem zxg:yT prog 23 3 3=true:=by kernel_rfl
theorem zxh:yT prog 32 0 0=true:=by kernel_rfl
theorem zxi:yT prog 32 1 1=true:=by kernel_rfl
theorem zxj:yT prog 32 2 2=true:=by kernel_rfl
theorem zxk:yT prog 69 0 0=true:=by kernel_rfl
theorem zxl:yT prog 69 1 1=true:=by kernel_rfl
theorem zxm:yT prog 75 3 3=true:=by kernel_rfl
theorem zxn:yT prog 83 0 0=true:=by kernel_rfl
theorem zxo:yT prog 83 1 1=true:=by kernel_rfl
theorem zxp:yT prog 90 0 0=true:=by kernel_rfl
theorem zxq:yT prog 90 1 1=true:=by kernel_rfl
theorem zxr:yT prog 90 4 4=true:=by kernel_rfl
theorem ztr:yT prog 100 0 0=true:=by kernel_rfl
theorem zts:yT prog 100 1 2=true:=by kernel_rfl
theorem ztt:yT prog 155 0 0=true:=by kernel_rfl
theorem ztu:yT prog 155 1 1=true:=by kernel_rfl
theorem ztv:yT prog 155 2 2=true:=by kernel_rfl
theorem ztw:yT prog 155 3 3=true:=by kernel_rfl
theorem ztx:yT prog 155 4 4=true:=by kernel_rfl
theorem zty:yT prog 158 0 0=true:=by kernel_rfl
theorem ztz:yT prog 158 1 1=true:=by kernel_rfl
theorem ztA:yT prog 158 2 2=true:=by kernel_rfl
theorem ztB:yT prog 171 0 0=true:=by kernel_rfl
theorem ztC:yT prog 171 2 6=true:=by kernel_rfl
theorem ztD:yT prog 171 4 8=true:=by kernel_rfl
theorem ztE:yT prog 183 1 1=true:=by kernel_rfl
theorem ztF:yT prog 183 2 2=true:=by kernel_rfl
theorem ztG:yT prog 183 3 3=true:=by kernel_rfl
theorem ztH:yT prog 183 4 4=true:=by kernel_rfl
theorem ztI:yT prog 183 5 5=true:=by kernel_rfl
theorem ztJ:yT prog 183 6 6=true:=by kernel_rfl
theorem ztK:yT prog 183 7 8=true:=by kernel_rfl
theorem ztL:yT prog 183 8 10=true:=by kernel_rfl
theorem ztM:yT prog 215 0 0=true:=by kernel_rfl
theorem ztN:yT prog 215 1 1=true:=by kernel_rfl
theorem ztO:yT prog 215 2 2=true:=by kernel_rfl
theorem ztP:yT prog 215 3 3=true:=by kernel_rfl
theorem ztQ:yT prog 234 0 0=true:=by kernel_rfl
theorem ztR:yT prog 239 0 0=true:=by kernel_rfl
theorem ztS:yT prog 239 1 4=true:=by kernel_rfl
theorem ztT:yT prog 239 2 5=true:=by kernel_rfl
theorem ztU:yT prog 239 3 6=true:=by kernel_rfl
theorem ztV:yT prog 317 0 0=true:=by kernel_rfl
theorem ztW:yT prog 317 1 1=true:=by kernel_rfl
theorem ztX:yT prog 317 2 2=true:=by kernel_rfl
theorem ztY:yT prog 317 3 3=true:=by kernel_rfl
theorem ztZ:yT prog 317 4 4=true:=by kernel_rfl
theorem zt0:yT prog 317 5 5=true:=by kernel_rfl
theorem zt1:yT prog 322 0 0=true:=by kernel_rfl
theorem zt2:yT prog 322 1 2=true:=by kernel_rfl
theorem zt3:yT prog 322 2 3=true:=by kernel_rfl
theorem zt4:yT prog 322 3 4=true:=by kernel_rfl
theorem zt5:yT prog 322 4 5=true:=by kernel_rfl
theorem zt6:yT prog 322 5 6=true:=by kernel_rfl
theorem zt7:yT prog 332 0 0=true:=by kernel_rfl
theorem zt8:yT prog 335 0 0=true:=by kernel_rfl
theorem zt9:yT prog 335 1 1=true:=by kernel_rfl
theorem zua:yT prog 335 2 2=true:=by kernel_rfl
theorem zub:yT prog 335 3 4=true:=by kernel_rfl
theorem zuc:yT prog 357 0 0=true:=by kernel_rfl
theorem zud:yT prog 357 1 1=true:=by kernel_rfl
theorem zue:yT prog 357 2 2=true:=by kernel_rfl
theorem zuf:yT prog 367 0 0=true:=by kernel_rfl
theorem zug:yT prog 367 1 1=true:=by kernel_rfl
theorem zuh:yT prog 367 2 2=true:=by kernel_rfl
theorem zui:yT prog 379 0 0=true:=by kernel_rfl
theorem zuj:yT prog 379 1 1=true:=by kernel_rfl
theorem zuk:yT prog 379 2 2=true:=by kernel_rfl
theorem pl23:zQ prog 23=some [(0,1),(1,1),(2,1),(3,1)]:=by kernel_rfl
theorem ia23:zv prog 23=true:=by kernel_rfl
theorem pl32:zQ prog 32=some [(0,1),(1,1),(2,1)]:=by kernel_rfl
theorem ia32:zv prog 32=true:=by kernel_rfl
theorem pl69:zQ prog 69=some [(0,1),(1,1)]:=by kernel_rfl
theorem ia69:zv prog 69=true:=by kernel_rfl
theorem pl75:zQ prog 75=some [(0,1),(1,1),(2,1),(3,1)]:=by kernel_rfl
theorem ia75:zv prog 75=true:=by kernel_rfl
theorem pl83:zQ prog 83=some [(0,1),(1,1)]:=by kernel_rfl
theorem ia83:zv prog 83=true:=by kernel_rfl
theorem pl90:zQ prog 90=some [(0,1),(1,1),(2,1),(3,1),(4,1),(5,1),(6,1),(7,1),(8,4),(12,1),(13,1),(14,1),(15,2)]:=by kernel_rfl
theorem ia90:zv prog 90=true:=by kernel_rfl
theorem zAH:zQ prog 100=some [(0,2),(2,1)]:=by kernel_rfl
theorem zAI:zv prog 100=true:=by kernel_rfl
theorem zAJ:zQ prog 155=some [(0,1),(1,1),(2,1),(3,1),(4,1)]:=by kernel_rfl
theorem zAK:zv prog 155=true:=by kernel_rfl
theorem zAL:zQ prog 158=some [(0,1),(1,1),(2,1)]:=by kernel_rfl
theorem zAM:zv prog 158=true:=by kernel_rfl
theorem zAN:zQ prog 171=some [(0,2),(2,4),(6,1),(7,1),(8,1)]:=by kernel_rfl
theorem zAO:zv prog 171=true:=by kernel_rfl
theorem zAP:zQ prog 183=some [(0,1),(1,1),(2,1),(3,1),(4,1),(5,1),(6,2),(8,2),(10,2)]:=by kernel_rfl
theorem zAQ:zv prog 183=true:=by kernel_rfl
theorem zAR:zQ prog 215=some [(0,1),(1,1),(2,1),(3,1)]:=by kernel_rfl
theorem zAS:zv prog 215=true:=by kernel_rfl
theorem zAT:zQ prog 234=some [(0,1)]:=by kernel_rfl
theorem zAU:zv prog 234=true:=by kernel_rfl
theorem zAV:zQ prog 239=some [(0,4),(4,1),(5,1),(6,1)]:=by kernel_rfl
theorem zAW:zv prog 239=true:=by kernel_rfl
theorem zAX:zQ prog 317=some [(0,1),(1,1),(2,1),(3,1),(4,1),(5,2)]:=by kernel_rfl
theorem zAY:zv prog 317=true:=by kernel_rfl
theorem zAZ:zQ prog 322=some [(0,2),(2,1),(3,1),(4,1),(5,1),(6,1)]:=by kernel_rfl
theorem zA0:zv prog 322=true:=by kernel_rfl
theorem zA1:zQ prog 332=some [(0,1)]:=by kernel_rfl
theorem zA2:zv prog 332=true:=by kernel_rfl
theorem zA3:zQ prog 335=some [(0,1),(1,1),(2,2),(4,1)]:=by kernel_rfl
theorem zA4:zv prog 335=true:=by kernel_rfl
theorem zA5:zQ prog 357=some [(0,1),(1,1),(2,1)]:=by kernel_rfl
theorem zA6:zv prog 357=true:=by kernel_rfl
theorem zA7:zQ prog 367=some [(0,1),(1,1),(2,1)]:=by kernel_rfl
theorem zA8:zv prog 367=true:=by kernel_rfl
theorem zA9:zQ prog 379=some [(0,1),(1,1),(2,1)]:=by kernel_rfl
theorem zBa:zv prog 379=true:=by kernel_rfl
theorem zrJ:zdI prog 210 4 3=true:=by kernel_rfl
theorem zBb:zdI prog 216 9 215=true:=by kernel_rfl
theorem zBc:zdI prog 282 3 83=true:=by kernel_rfl
theorem zBd:zdI prog 368 5 367=true:=by kernel_rfl
theorem zBe:zdI prog 386 3 4=true:=by kernel_rfl
theorem zBf:zdI prog 387 5 386=true:=by kernel_rfl
theorem zBg:(eqOk prog 5 83&&decide (5<=10000))=true:=by kernel_rfl
theorem fl83:flat prog 5 83=[1,1]:=by kernel_rfl
theorem zBh:(eqOk prog 5 90&&decide (5<=10000))=true:=by kernel_rfl
theorem fl90:flat prog 5 90=[1,1,1,1,2,1,2,2,1,1,1,1,2,1,1,1,1]:=by kernel_rfl
theorem eqo100:(eqOk prog 5 100&&decide (5<=10000))=true:=by kernel_rfl
theorem fl100:flat prog 5 100=[1,1,2]:=by kernel_rfl
theorem eq83:(eqOk prog 5 83&&decide (5<=10000))=true:=zBg
theorem eg83:prog.eqGuardType prog.depth 83=false:=by kernel_rfl
theorem eq90:(eqOk prog 5 90&&decide (5<=10000))=true:=zBh
theorem eg90:prog.eqGuardType prog.depth 90=false:=by kernel_rfl
theorem zBi:(eqOk prog 5 100&&decide (5<=10000))=true:=eqo100
theorem zBj:prog.eqGuardType prog.depth 100=false:=by kernel_rfl
theorem mo:prog.follows .mixedOrders=true:=by kernel_rfl
end Go.Rse
