/-
  zgk facts on the types, fields and functions of the translation: printed by program (genty.py).
-/
import Derived.Test.YtamceaedmdmmlaaGreatDoorProg
import Derived.Test.YtamceaedmdmmlaaGreatDoorZLogA
import Derived.KernelRfl
set_option linter.all false
namespace Go.Rse
open Go Go.Proofs Go.Proofs.Tryz
theorem ty3:tyOk prog 3 false 1=true:=by kernel_rfl
theorem ty4:tyOk prog 4 false 1=true:=by kernel_rfl
theorem ty22:tyOk prog 22 false 1=true:=by kernel_rfl
theorem ty24:tyOk prog 24 true 3=true:=by kernel_rfl
theorem ty27:tyOk prog 27 true 4=true:=by kernel_rfl
theorem ty31:tyOk prog 31 false 1=true:=by kernel_rfl
theorem ty35:tyOk prog 35 false 1=true:=by kernel_rfl
theorem ty46:tyOk prog 46 true 2=true:=by kernel_rfl
theorem ty50:tyOk prog 50 true 4=true:=by kernel_rfl
theorem ty52:tyOk prog 52 true 2=true:=by kernel_rfl
theorem ty56:tyOk prog 56 false 1=true:=by kernel_rfl
theorem ty61:tyOk prog 61 true 2=true:=by kernel_rfl
theorem ty63:tyOk prog 63 true 3=true:=by kernel_rfl
theorem ty76:tyOk prog 76 true 17=true:=by kernel_rfl
theorem ty87:tyOk prog 87 false 1=true:=by kernel_rfl
theorem zw1:tyOk prog 116 true 5=true:=by kernel_rfl
theorem zkZ:tyOk prog 129 true 12=true:=by kernel_rfl
theorem zw2:tyOk prog 150 true 3=true:=by kernel_rfl
theorem zw3:tyOk prog 180 true 4=true:=by kernel_rfl
theorem zw4:tyOk prog 198 true 36=true:=by kernel_rfl
theorem zsX:tyOk prog 260 true 7=true:=by kernel_rfl
theorem zw5:tyOk prog 289 true 12=true:=by kernel_rfl
theorem zw6:tyOk prog 322 true 15=true:=by kernel_rfl
theorem ze3:(prog.info? 3).bind (·.zero)=some (.int .i64 0):=by kernel_rfl
theorem ze4:(prog.info? 4).bind (·.zero)=some (.bool false):=by kernel_rfl
theorem ze22:(prog.info? 22).bind (·.zero)=some (.slice none 0 0):=by kernel_rfl
theorem ze24:(prog.info? 24).bind (·.zero)=some (.agg #[.bool false,.bool false,.bool false]):=by kernel_rfl
theorem ze27:(prog.info? 27).bind (·.zero)=some (.agg #[.int .i64 0,.int .i64 0,.int .i64 0,.int .i64 0]):=by kernel_rfl
theorem ze31:(prog.info? 31).bind (·.zero)=some (.int .i64 0):=by kernel_rfl
theorem ze35:(prog.info? 35).bind (·.zero)=some (.slice none 0 0):=by kernel_rfl
theorem ze38:(prog.info? 38).bind (·.zero)=some (.slice none 0 0):=by kernel_rfl
theorem ze46:(prog.info? 46).bind (·.zero)=some (.agg #[.string ⟨#[]⟩,.slice none 0 0]):=by kernel_rfl
theorem zc46:y0 prog 46 [.str ⟨#[]⟩,.nils]:=⟨_,ze46,rfl⟩
theorem ze50:(prog.info? 50).bind (·.zero)=some (.agg #[.slice none 0 0,.slice none 0 0,.slice none 0 0,.slice none 0 0]):=by kernel_rfl
theorem ze52:(prog.info? 52).bind (·.zero)=some (.agg #[.int .i64 0,.int .i64 0]):=by kernel_rfl
theorem ze61:(prog.info? 61).bind (·.zero)=some (.agg #[.int .i64 0,.int .i64 0]):=by kernel_rfl
theorem zc61:y0 prog 61 [.int .i64 0,.int .i64 0]:=⟨_,ze61,rfl⟩
theorem ze63:(prog.info? 63).bind (·.zero)=some (.agg #[.int .i64 0,.int .i64 0,.bool false]):=by kernel_rfl
theorem ze76:(prog.info? 76).bind (·.zero)=some (.agg #[.int .i64 0,.int .i64 0,.int .i64 0,.int .i64 0,.bool false,.int .i64 0,.bool false,.bool false,.int .i64 0,.int .i64 0,.int .i64 0,.int .i64 0,.bool false,.int .i64 0,.int .i64 0,.int .i64 0,.int .i64 0]):=by kernel_rfl
theorem ze87:(prog.info? 87).bind (·.zero)=some (.slice none 0 0):=by kernel_rfl
theorem ze97:(prog.info? 97).bind (·.zero)=some (.agg #[.int .i64 0,.int .i64 0,.int .i64 0,.int .i64 0,.slice none 0 0]):=by kernel_rfl
theorem zCM:(prog.info? 106).bind (·.zero)=some (.agg #[.string ⟨#[]⟩,.slice none 0 0,.int .i64 0,.int .i64 0,.int .i64 0,.int .i64 0,.int .i64 0,.bool false,.bool false]):=by kernel_rfl
theorem zw7:(prog.info? 116).bind (·.zero)=some (.agg #[.int .i64 0,.bool false,.bool false,.bool false,.int .i64 0]):=by kernel_rfl
theorem zCP:(prog.info? 123).bind (·.zero)=some (.slice none 0 0):=by kernel_rfl
theorem zsY:(prog.info? 129).bind (·.zero)=some (.agg #[.int .i64 0,.int .i64 0,.bool false,.bool false,.bool false,.int .i64 0,.int .i64 0,.int .i64 0,.int .i64 0,.int .i64 0,.int .i64 0,.int .i64 0]):=by kernel_rfl
theorem zhd:y0 prog 129 [.int .i64 0,.int .i64 0,.bool false,.bool false,.bool false,.int .i64 0,.int .i64 0,.int .i64 0,.int .i64 0,.int .i64 0,.int .i64 0,.int .i64 0]:=⟨_,zsY,rfl⟩
theorem zCR:(prog.info? 136).bind (·.zero)=some (.slice none 0 0):=by kernel_rfl
theorem zw8:(prog.info? 140).bind (·.zero)=some (.agg #[.int .i64 0,.int .i64 0,.int .i64 0,.int .i64 0,.int .i64 0,.int .i64 0,.int .i64 0,.int .i64 0]):=by kernel_rfl
theorem zw9:(prog.info? 150).bind (·.zero)=some (.agg #[.int .i64 0,.bool false,.bool false]):=by kernel_rfl
theorem zCV:(prog.info? 172).bind (·.zero)=some (.agg #[.int .i64 0]):=by kernel_rfl
theorem zCX:(prog.info? 177).bind (·.zero)=some (.agg #[.int .i64 0,.int .i64 0,.int .i64 0,.int .i64 0,.slice none 0 0,.slice none 0 0,.slice none 0 0]):=by kernel_rfl
theorem zCZ:(prog.info? 180).bind (·.zero)=some (.agg #[.int .i64 0,.int .i64 0,.int .i64 0,.int .i64 0]):=by kernel_rfl
theorem zC1:(prog.info? 197).bind (·.zero)=some (.agg #[.bool false,.bool false,.bool false,.nilFunc]):=by kernel_rfl
theorem zC3:(prog.info? 198).bind (·.zero)=some (.agg #[.bool false,.bool false,.bool false,.nilFunc,.bool false,.bool false,.bool false,.nilFunc,.bool false,.bool false,.bool false,.nilFunc,.bool false,.bool false,.bool false,.nilFunc,.bool false,.bool false,.bool false,.nilFunc,.bool false,.bool false,.bool false,.nilFunc,.bool false,.bool false,.bool false,.nilFunc,.bool false,.bool false,.bool false,.nilFunc,.bool false,.bool false,.bool false,.nilFunc]):=by kernel_rfl
theorem zC5:(prog.info? 226).bind (·.zero)=some (.agg #[.int .i64 0,.int .i64 0,.int .i64 0,.int .i64 0,.int .i64 0,.int .i64 0]):=by kernel_rfl
theorem zC7:(prog.info? 235).bind (·.zero)=some (.agg #[.int .i64 0,.int .i64 0]):=by kernel_rfl
theorem zC9:(prog.info? 254).bind (·.zero)=some (.slice none 0 0):=by kernel_rfl
theorem zpR:(prog.info? 260).bind (·.zero)=some (.agg #[.int .i64 0,.int .i64 0,.int .i64 0,.int .i64 0,.bool false,.int .i64 0,.int .i64 0]):=by kernel_rfl
theorem zsZ:y0 prog 260 [.int .i64 0,.int .i64 0,.int .i64 0,.int .i64 0,.bool false,.int .i64 0,.int .i64 0]:=⟨_,zpR,rfl⟩
theorem zDb:(prog.info? 265).bind (·.zero)=some (.agg #[.int .i64 0,.int .i64 0,.int .i64 0,.slice none 0 0,.slice none 0 0,.slice none 0 0,.slice none 0 0]):=by kernel_rfl
theorem zDd:(prog.info? 270).bind (·.zero)=some (.nilFunc):=by kernel_rfl
theorem zDf:(prog.info? 282).bind (·.zero)=some (.agg #[.slice none 0 0]):=by kernel_rfl
theorem zDh:(prog.info? 285).bind (·.zero)=some (.agg #[.slice none 0 0,.int .i64 0,.int .i64 0,.int .i64 0,.map none]):=by kernel_rfl
theorem zDi:(prog.info? 289).bind (·.zero)=some (.agg #[.bool false,.bool false,.bool false,.bool false,.bool false,.bool false,.bool false,.bool false,.bool false,.bool false,.bool false,.bool false]):=by kernel_rfl
theorem zDk:(prog.info? 297).bind (·.zero)=some (.nilFunc):=by kernel_rfl
theorem zxa:(prog.info? 309).bind (·.zero)=some (.agg #[.int .i64 0,.int .i64 0,.int .i64 0]):=by kernel_rfl
theorem zDn:(prog.info? 321).bind (·.zero)=some (.agg #[.nilFunc,.int .i64 0,.int .i64 0]):=by kernel_rfl
theorem zDo:(prog.info? 322).bind (·.zero)=some (.agg #[.nilFunc,.int .i64 0,.int .i64 0,.nilFunc,.int .i64 0,.int .i64 0,.nilFunc,.int .i64 0,.int .i64 0,.nilFunc,.int .i64 0,.int .i64 0,.nilFunc,.int .i64 0,.int .i64 0]):=by kernel_rfl
theorem zDq:(prog.info? 338).bind (·.zero)=some (.agg #[.int .i64 0,.int .i64 0,.bool false]):=by kernel_rfl
theorem zDs:(prog.info? 345).bind (·.zero)=some (.agg #[.bool false,.bool false,.bool false]):=by kernel_rfl
theorem zDu:(prog.info? 346).bind (·.zero)=some (.agg #[.bool false,.bool false,.bool false,.bool false,.bool false,.bool false,.bool false,.bool false,.bool false,.bool false,.bool false,.bool false,.bool false,.bool false,.bool false]):=by kernel_rfl
theorem zxb:y0 prog 346 [.bool false,.bool false,.bool false,.bool false,.bool false,.bool false,.bool false,.bool false,.bool false,.bool false,.bool false,.bool false,.bool false,.bool false,.bool false]:=⟨_,zDu,rfl⟩
theorem ti3:zK prog 3 (.int .i64 0) 1 8:=zv (by kernel_rfl) rfl
theorem ti4:zK prog 4 (.bool false) 1 1:=zv (by kernel_rfl) rfl
theorem ti61:zK prog 61 (.agg #[.int .i64 0,.int .i64 0]) 2 16:=zv (by kernel_rfl) rfl
theorem ti76:zK prog 76 (.agg #[.int .i64 0,.int .i64 0,.int .i64 0,.int .i64 0,.bool false,.int .i64 0,.bool false,.bool false,.int .i64 0,.int .i64 0,.int .i64 0,.int .i64 0,.bool false,.int .i64 0,.int .i64 0,.int .i64 0,.int .i64 0]) 17 128:=zv (by kernel_rfl) rfl
theorem zxc:zK prog 129 (.agg #[.int .i64 0,.int .i64 0,.bool false,.bool false,.bool false,.int .i64 0,.int .i64 0,.int .i64 0,.int .i64 0,.int .i64 0,.int .i64 0,.int .i64 0]) 12 80:=zv (by kernel_rfl) rfl
theorem sl22:slOk prog 22 3=true:=by kernel_rfl
theorem sl29:slOk prog 29 63=true:=by kernel_rfl
theorem sl35:slOk prog 35 76=true:=by kernel_rfl
theorem sl38:slOk prog 38 61=true:=by kernel_rfl
theorem sl56:slOk prog 56 35=true:=by kernel_rfl
theorem sl82:slOk prog 82 56=true:=by kernel_rfl
theorem sl87:slOk prog 87 4=true:=by kernel_rfl
theorem zhT:slOk prog 123 129=true:=by kernel_rfl
theorem zxd:slOk prog 212 22=true:=by kernel_rfl
theorem zs0:slOk prog 254 260=true:=by kernel_rfl
theorem pl24:zC prog 24=some [(0,1),(1,1),(2,1)]:=by kernel_rfl
theorem ia24:zl prog 24=true:=by kernel_rfl
theorem pl27:zC prog 27=some [(0,1),(1,1),(2,1),(3,1)]:=by kernel_rfl
theorem ia27:zl prog 27=true:=by kernel_rfl
theorem pl46:zC prog 46=some [(0,1),(1,1)]:=by kernel_rfl
theorem ia46:zl prog 46=true:=by kernel_rfl
theorem pl50:zC prog 50=some [(0,1),(1,1),(2,1),(3,1)]:=by kernel_rfl
theorem ia50:zl prog 50=true:=by kernel_rfl
theorem pl52:zC prog 52=some [(0,1),(1,1)]:=by kernel_rfl
theorem ia52:zl prog 52=true:=by kernel_rfl
theorem pl61:zC prog 61=some [(0,1),(1,1)]:=by kernel_rfl
theorem ia61:zl prog 61=true:=by kernel_rfl
theorem pl63:zC prog 63=some [(0,2),(2,1)]:=by kernel_rfl
theorem ia63:zl prog 63=true:=by kernel_rfl
theorem pl76:zC prog 76=some [(0,1),(1,1),(2,1),(3,1),(4,1),(5,1),(6,1),(7,1),(8,4),(12,1),(13,1),(14,1),(15,2)]:=by kernel_rfl
theorem ia76:zl prog 76=true:=by kernel_rfl
theorem pl97:zC prog 97=some [(0,4),(4,1)]:=by kernel_rfl
theorem ia97:zl prog 97=true:=by kernel_rfl
theorem zDE:zC prog 106=some [(0,2),(2,4),(6,1),(7,1),(8,1)]:=by kernel_rfl
theorem zDF:zl prog 106=true:=by kernel_rfl
theorem zDG:zC prog 116=some [(0,1),(1,1),(2,1),(3,1),(4,1)]:=by kernel_rfl
theorem zDH:zl prog 116=true:=by kernel_rfl
theorem zDI:zC prog 129=some [(0,1),(1,1),(2,1),(3,1),(4,1),(5,1),(6,2),(8,2),(10,2)]:=by kernel_rfl
theorem zDJ:zl prog 129=true:=by kernel_rfl
theorem zDK:zC prog 140=some [(0,1),(1,1),(2,4),(6,2)]:=by kernel_rfl
theorem zDL:zl prog 140=true:=by kernel_rfl
theorem zDM:zC prog 150=some [(0,1),(1,1),(2,1)]:=by kernel_rfl
theorem zDN:zl prog 150=true:=by kernel_rfl
theorem zDO:zC prog 172=some [(0,1)]:=by kernel_rfl
theorem zDP:zl prog 172=true:=by kernel_rfl
theorem zDQ:zC prog 177=some [(0,4),(4,1),(5,1),(6,1)]:=by kernel_rfl
theorem zDR:zl prog 177=true:=by kernel_rfl
theorem zDS:zC prog 197=some [(0,1),(1,1),(2,1),(3,1)]:=by kernel_rfl
theorem zDT:zl prog 197=true:=by kernel_rfl
theorem zDU:zC prog 260=some [(0,1),(1,1),(2,1),(3,1),(4,1),(5,2)]:=by kernel_rfl
theorem zDV:zl prog 260=true:=by kernel_rfl
theorem zDW:zC prog 265=some [(0,2),(2,1),(3,1),(4,1),(5,1),(6,1)]:=by kernel_rfl
theorem zDX:zl prog 265=true:=by kernel_rfl
theorem zDY:zC prog 282=some [(0,1)]:=by kernel_rfl
theorem zDZ:zl prog 282=true:=by kernel_rfl
theorem zD0:zC prog 285=some [(0,1),(1,1),(2,2),(4,1)]:=by kernel_rfl
theorem zD1:zl prog 285=true:=by kernel_rfl
theorem zD2:zC prog 309=some [(0,1),(1,1),(2,1)]:=by kernel_rfl
theorem zD3:zl prog 309=true:=by kernel_rfl
theorem zD4:zC prog 321=some [(0,1),(1,1),(2,1)]:=by kernel_rfl
theorem zD5:zl prog 321=true:=by kernel_rfl
theorem zD6:zC prog 338=some [(0,1),(1,1),(2,1)]:=by kernel_rfl
theorem zD7:zl prog 338=true:=by kernel_rfl
theorem zs3:zcr prog 180 4 3=true:=by kernel_rfl
theorem zEf:(eqOk prog 5 61&&decide (5<=10000))=true:=by kernel_rfl
theorem fl61:flat prog 5 61=[1,1]:=by kernel_rfl
theorem zEg:(eqOk prog 5 63&&decide (5<=10000))=true:=by kernel_rfl
theorem fl63:flat prog 5 63=[1,1,2]:=by kernel_rfl
theorem zEh:(eqOk prog 5 76&&decide (5<=10000))=true:=by kernel_rfl
theorem fl76:flat prog 5 76=[1,1,1,1,2,1,2,2,1,1,1,1,2,1,1,1,1]:=by kernel_rfl
theorem eq61:(eqOk prog 5 61&&decide (5<=10000))=true:=zEf
theorem eg61:prog.eqGuardType prog.depth 61=false:=by kernel_rfl
theorem eq63:(eqOk prog 5 63&&decide (5<=10000))=true:=zEg
theorem eg63:prog.eqGuardType prog.depth 63=false:=by kernel_rfl
theorem eq76:(eqOk prog 5 76&&decide (5<=10000))=true:=zEh
theorem eg76:prog.eqGuardType prog.depth 76=false:=by kernel_rfl
theorem mo:prog.follows .mixedOrders=true:=by kernel_rfl
end Go.Rse
