/-
  zdR facts on the types, fields and functions of the translation: printed by program (genty.py).
-/
import Derived.Test.YtpapdhoblekoeaaGreatDoorProg
import Derived.Test.YtpapdhoblekoeaaGreatDoorZLogA
import Derived.KernelRfl
set_option linter.all false
namespace Go.Rse
open Go Go.Proofs Go.Proofs.Tryz
theorem ty3:tyOk prog 3 false 1=true:=ae
theorem ty4:tyOk prog 4 false 1=true:=ae
theorem ty5:tyOk prog 5 false 1=true:=ae
theorem ty9:tyOk prog 9 false 1=true:=ae
theorem ty22:tyOk prog 22 false 1=true:=ae
theorem ty26:tyOk prog 26 true 2=true:=ae
theorem ty28:tyOk prog 28 false 1=true:=ae
theorem ty29:tyOk prog 29 false 1=true:=ae
theorem ty31:tyOk prog 31 true 2=true:=ae
theorem ty35:tyOk prog 35 true 2=true:=ae
theorem ty38:tyOk prog 38 true 3=true:=ae
theorem ty50:tyOk prog 50 true 4=true:=ae
theorem ty60:tyOk prog 60 true 3=true:=ae
theorem ty62:tyOk prog 62 true 10=true:=ae
theorem ty67:tyOk prog 67 true 4=true:=ae
theorem ty69:tyOk prog 69 true 17=true:=ae
theorem zxV:tyOk prog 114 false 1=true:=ae
theorem zpX:tyOk prog 131 true 4=true:=ae
theorem zkQ:tyOk prog 138 true 2=true:=ae
theorem zxW:tyOk prog 142 true 3=true:=ae
theorem zxX:tyOk prog 143 true 3=true:=ae
theorem zxY:tyOk prog 158 true 3=true:=ae
theorem ztm:tyOk prog 160 true 5=true:=ae
theorem zb3:tyOk prog 165 true 3=true:=ae
theorem zcL:tyOk prog 207 false 1=true:=ae
theorem znm:tyOk prog 241 true 12=true:=ae
theorem zpY:tyOk prog 333 true 2=true:=ae
theorem zxZ:tyOk prog 344 true 12=true:=ae
theorem zx0:tyOk prog 351 true 4=true:=ae
theorem zx1:tyOk prog 368 true 13=true:=ae
theorem zx2:tyOk prog 374 false 1=true:=ae
theorem ztn:tyOk prog 403 true 7=true:=ae
theorem zpZ:tyOk prog 417 true 3=true:=ae
theorem zx3:tyOk prog 427 true 7=true:=ae
theorem zkR:tyOk prog 431 true 2=true:=ae
theorem zx4:tyOk prog 453 true 15=true:=ae
theorem zx5:tyOk prog 478 true 2=true:=ae
theorem us3:(Program.underlying prog 3).isSome=true:=ae
theorem zx6:(Program.underlying prog 192).isSome=true:=ae
theorem zx7:Program.underlying prog 192=some (.int .u64):=ae
theorem ze3:(prog.info? 3).bind (·.zero)=some (va):=ae
theorem ze4:(prog.info? 4).bind (·.zero)=some (vb):=ae
theorem ze5:(prog.info? 5).bind (·.zero)=some (.int .u8 0):=ae
theorem ze22:(prog.info? 22).bind (·.zero)=some (.slice none 0 0):=ae
theorem ze26:(prog.info? 26).bind (·.zero)=some (.agg #[.string ⟨#[]⟩,.slice none 0 0]):=ae
theorem zc26:yF prog 26 [.str ⟨#[]⟩,.nils]:=ve ae
theorem zc31:yF prog 31 [vc,vc]:=ve ae
theorem ze35:(prog.info? 35).bind (·.zero)=some (.agg #[va,va]):=ae
theorem zc35:yF prog 35 [vc,vc]:=ve ae
theorem zc38:yF prog 38 [vc,vc,.nils]:=ve ae
theorem ze50:(prog.info? 50).bind (·.zero)=some (.agg #[.slice none 0 0,.slice none 0 0,.slice none 0 0,.slice none 0 0]):=ae
theorem ze60:(prog.info? 60).bind (·.zero)=some (.agg #[va,va,va]):=ae
theorem ze62:(prog.info? 62).bind (·.zero)=some (.agg #[va,va,va,va,va,va,va,vb,va,va]):=ae
theorem zc62:yF prog 62 [vc,vc,vc,vc,vc,vc,vc,vd,vc,vc]:=ve ae
theorem ze69:(prog.info? 69).bind (·.zero)=some (.agg #[va,va,va,va,vb,va,vb,vb,va,va,va,va,vb,va,va,va,va]):=ae
theorem zc73:yF prog 73 [.str ⟨#[]⟩,.nils,.nils]:=ve ae
theorem zx9:yF prog 119 [vc,vc,vc,vc,.nils]:=ve ae
theorem zto:(prog.info? 142).bind (·.zero)=some (.agg #[va,va,va]):=ae
theorem zyd:(prog.info? 160).bind (·.zero)=some (.agg #[va,va,va,.slice none 0 0,vb]):=ae
theorem zp0:(prog.info? 223).bind (·.zero)=some (.agg #[va,va,va,va]):=ae
theorem zkS:yF prog 241 [vc,vc,vd,vd,vd,vc,vc,vc,vc,vc,vc,vc]:=ve ae
theorem zEY:(prog.info? 374).bind (·.zero)=some (.nilFunc):=ae
theorem ztp:(prog.info? 403).bind (·.zero)=some (.agg #[va,va,va,va,vb,va,va]):=ae
theorem zE4:(prog.info? 414).bind (·.zero)=some (.agg #[.slice none 0 0,va,va,va,.map none]):=ae
theorem zyj:(prog.info? 427).bind (·.zero)=some (.agg #[va,va,va,va,va,va,va]):=ae
theorem ztq:yF prog 431 [vc,vc]:=ve ae
theorem zFa:(prog.info? 452).bind (·.zero)=some (.agg #[.nilFunc,va,va]):=ae
theorem ztr:yF prog 478 [vc,vc]:=ve ae
theorem zyk:yF prog 481 [vc,vc,vc,vc]:=ve ae
theorem zyl:yF prog 507 [vd,vd,vd,vd,vd,vd,vd,vd,vd,vd,vd,vd,vd,vd,vd]:=ve ae
theorem ti3:y7 prog 3 (va) 1 8:=yV ae rfl
theorem ti4:y7 prog 4 (vb) 1 1:=yV ae rfl
theorem ti28:y7 prog 28 (.slice none 0 0) 1 24:=yV ae rfl
theorem ti35:y7 prog 35 (.agg #[va,va]) 2 16:=yV ae rfl
theorem ti50:y7 prog 50 (.agg #[.slice none 0 0,.slice none 0 0,.slice none 0 0,.slice none 0 0]) 4 96:=yV ae rfl
theorem ti69:y7 prog 69 (.agg #[va,va,va,va,vb,va,vb,vb,va,va,va,va,vb,va,va,va,va]) 17 128:=yV ae rfl
theorem zyn:y7 prog 138 (.agg #[va,va]) 2 16:=yV ae rfl
theorem zyo:y7 prog 165 (.agg #[va,vb,vb]) 3 16:=yV ae rfl
theorem sl22:slOk prog 22 3=true:=ae
theorem sl24:slOk prog 24 69=true:=ae
theorem sl28:slOk prog 28 62=true:=ae
theorem sl41:slOk prog 41 26=true:=ae
theorem sl48:slOk prog 48 35=true:=ae
theorem sl70:slOk prog 70 142=true:=ae
theorem sl75:slOk prog 75 165=true:=ae
theorem sl88:slOk prog 88 9=true:=ae
theorem zp1:slOk prog 100 50=true:=ae
theorem zFC:slOk prog 121 5=true:=ae
theorem zp2:slOk prog 134 138=true:=ae
theorem zyp:slOk prog 152 158=true:=ae
theorem zts:slOk prog 156 160=true:=ae
theorem zyq:slOk prog 201 22=true:=ae
theorem zdZ:slOk prog 207 4=true:=ae
theorem zkT:slOk prog 235 241=true:=ae
theorem ztt:slOk prog 281 28=true:=ae
theorem zyr:slOk prog 376 374=true:=ae
theorem ztu:slOk prog 399 403=true:=ae
theorem zys:slOk prog 423 427=true:=ae
theorem zyt:zba prog 140 3 91=true:=ae
theorem ty91:tyOk prog 91 false 1=true:=ae
theorem ztx:zba prog 351 4 3=true:=ae
theorem zyu:zba prog 481 2 333=true:=ae
theorem eg3:prog.eqGuardType prog.depth 3=false:=ae
theorem eg4:prog.eqGuardType prog.depth 4=false:=ae
theorem mo:prog.follows .mixedOrders=true:=ae
end Go.Rse
