/-
  The program's data as plain structures, and how they lie in memory.
  Structs held against each other, by type.
  Short forms: rules whose premises are looked for by themselves.
  Functions that are handed blocks and leave more of their own; calls of such, in short form.
  Shifts and bits of small ints.
  Maps of one's own by ints: make, update, lookup with its word.
  What holds at a point, with facts on boxes at hand; the zero value of a map's elements.
  Copies into a row of one's own, its head as a slice, functions held against nil, operations behind a guard that is shut.
  The logic: a part of a row, read.
  Rules: blocks of one's own are lent for a call that only reads; maps that do not change.
  Maps of one's own by structs of two integers: update; range over a map of one's own.
  A row's tail is cleared: its zero may hold nil slices.
-/
import Derived.Test.YtamceaedmdmmlaaGreatDoorZTy
import Derived.Test.YtamceaedmdmmlaaGreatDoorZLogB
import Derived.MapKept
import Derived.WideKeyRuns
import Derived.ChangeKeysEq
import Derived.Maps.RangeRun
set_option linter.all false
namespace Go.Rse
open Go Go.RowKit
structure Mn where
 Max:Int
 Mod:Int
 Tem:Int
 Pro:Int
 deriving DecidableEq
structure Tm where
 N:Int
 D:Int
 deriving DecidableEq
structure Sg where
 Kind:Int
 Value:Int
 Place:Int
 Acc:Int
 Color:Bool
 Stem:Int
 Oblique:Bool
 Last:Bool
 Mens:Mn
 Stroke:Bool
 N:Int
 D:Int
 CStep:Int
 CLine:Int
 deriving DecidableEq
instance:Inhabited Tm:=⟨⟨0,0⟩⟩
instance:Inhabited Sg:=⟨⟨0,0,0,0,false,0,false,false,⟨0,0,0,0⟩,false,0,0,0,0⟩⟩
abbrev iv(n:Int):AV:=.int .i64 n
def intE:Int->List AV:=λn=>[.int .i64 n]
def zba:Bool->List AV:=λb=>[.bool b]
def mnE:Mn->List AV:=λm=>[.int .i64 m.Max,.int .i64 m.Mod,.int .i64 m.Tem,.int .i64 m.Pro]
def tmE:Tm->List AV:=λt=>[.int .i64 t.N,.int .i64 t.D]
def sgE:Sg->List AV:=λs=>[.int .i64 s.Kind,.int .i64 s.Value,.int .i64 s.Place,.int .i64 s.Acc,.bool s.Color,.int .i64 s.Stem,.bool s.Oblique,.bool s.Last,.int .i64 s.Mens.Max,.int .i64 s.Mens.Mod,.int .i64 s.Mens.Tem,.int .i64 s.Mens.Pro,.bool s.Stroke,.int .i64 s.N,.int .i64 s.D,.int .i64 s.CStep,.int .i64 s.CLine]
def zjN:List Int->List AV:=λl=>[.sl intE l]
abbrev yc(l:List Int):AV:=.sl intE l
abbrev zaX(l:List Bool):AV:=.sl zba l
abbrev mnA(m:Mn):AV:=.agg (mnE m)
abbrev tmA(t:Tm):AV:=.agg (tmE t)
abbrev sgA(s:Sg):AV:=.agg (sgE s)
abbrev sgsA(l:List Sg):AV:=.sl sgE l
abbrev tmsA(l:List Tm):AV:=.sl tmE l
abbrev zc7(l:List (List Int)):AV:=.sl zjN l
end Go.Rse
namespace Go.Rse
open Go Go.RowKit
section
variable{P:Program}{C:Ctx}{st:St}{ty:TypeId}
def zqm{t:TypeId}{x y:Operand}{yt:TypeId}{xs ys:List AV}{b:Bool}{L:List Nat}{d n:Nat}(h:(eqOk P d t&&decide (d<=10000))=true)(Z:flat P d t=L)(hm:P.eqGuardType P.depth t=false)(ht:tyOk P t true n=true)(hx:ev st x=some (.agg xs))(V:ev st y=some (.agg ys))(hn:xs.length=n)(kx:xs.map kAV=L)(ky:ys.map kAV=L)(he:eqL xs ys=some b):
 Pur P C (.binOp .eql t x y yt) ty st (.bool b):=zsu h Z hm (hn▸ht) hx V kx ky he
def zqn{t:TypeId}{x y:Operand}{yt:TypeId}{xs ys:List AV}{b:Bool}{L:List Nat}{d n:Nat}(h:(eqOk P d t&&decide (d<=10000))=true)(Z:flat P d t=L)(hm:P.eqGuardType P.depth t=false)(ht:tyOk P t true n=true)(hx:ev st x=some (.agg xs))(V:ev st y=some (.agg ys))(hn:xs.length=n)(kx:xs.map kAV=L)(ky:ys.map kAV=L)(he:eqL xs ys=some b):
 Pur P C (.binOp .neq t x y yt) ty st (.bool (!b)):=zsv h Z hm (hn▸ht) hx V kx ky he
end
def zf{x y:AV}{xs ys:List AV}{p q:Bool}(h:eqAV x y=some p)(Z:eqL xs ys=some q):eqL (x::xs) (y::ys)=some (p&&q):=by simp only[eqL,h,Z]
def zpB(a b:Tm):eqL (tmE a) (tmE b)=some (decide (a=b)):=by
 cases a;cases b;refine(zf rfl (zf rfl rfl)).trans ?_;simp
def zpC(a b:Sg):eqL (sgE a) (sgE b)=some (decide (a=b)):=by
 obtain⟨a1,a2,a3,a4,a5,a6,a7,a8,⟨a9,a10,a11,a12⟩,a13,a14,a15,a16,a17⟩:=a;obtain⟨b1,b2,b3,b4,b5,b6,b7,b8,⟨b9,b10,b11,b12⟩,b13,b14,b15,b16,b17⟩:=b;refine(zf rfl (zf rfl (zf rfl (zf rfl (zf rfl (zf rfl (zf rfl (zf rfl (zf rfl (zf rfl (zf rfl (zf rfl (zf rfl (zf rfl (zf rfl (zf rfl (zf rfl rfl))))))))))))))))).trans ?_;simp[xJ,xR]
end Go.Rse
namespace Go.Rse
open Go Go.RowKit
class EncK{α:Type}(enc:α->List AV)(s:outParam Nat):Prop where
 h:∀z,(enc z).length=s
instance:EncK intE 1:=⟨λ_=>rfl⟩
instance:EncK tmE 2:=⟨λ_=>rfl⟩
instance:EncK sgE 17:=⟨λ_=>rfl⟩
class TyK(P:Program)(t:Nat)(ag:outParam Bool)(n:outParam Nat):Prop where
 h:tyOk P t ag n=true
class SlK(P:Program)(t:Nat)(E:outParam Nat):Prop where
 h:slOk P t E=true
class FoK(P:Program)(s f:Nat)(off:outParam Nat):Prop where
 h:yJ P s f off=true
class TiK(P:Program)(E:Nat)(z:outParam Value)(s bytes:outParam Nat):Prop where
 h:zK P E z s bytes
class ArK(P:Program)(t:Nat)(n E:outParam Nat):Prop where
 h:zcr P t n E=true
class PlK(P:Program)(t:Nat)(pl:outParam (List (Nat×Nat))):Prop where
 h:zC P t=some pl/\zl P t=true
class ZcK(P:Program)(t:Nat)(cs:outParam (List AV)):Prop where
 h:y0 P t cs
class ZeK(P:Program)(t:Nat)(z:outParam Value):Prop where
 h:(P.info? t).bind (·.zero)=some z
class EqK(P:Program)(t:Nat)(L:outParam (List Nat)):Prop where
 h:(eqOk P 5 t&&decide (5<=10000))=true/\flat P 5 t=L/\P.eqGuardType P.depth t=false
section
variable{P:Program}{C:Ctx}{st:St}{ty:TypeId}{Q:Exit->St->Prop}
def zha{t:TypeId}{x y:Operand}{yt:TypeId}{xs ys:List AV}{b:Bool}{L:List Nat}{n:Nat}(he:eqL xs ys=some b)(h:EqK P t L)(ht:tyOk P t true n=true)(hx:ev st x=some (.agg xs))(Z:ev st y=some (.agg ys))(hn:xs.length=n)(kx:xs.map kAV=L)(ky:ys.map kAV=L):
 Pur P C (.binOp .eql t x y yt) ty st (.bool b):=zqm h.h.1 h.h.2.1 h.h.2.2 ht hx Z hn kx ky he
def zeZ{t:TypeId}{x y:Operand}{yt:TypeId}{xs ys:List AV}{b:Bool}{L:List Nat}{n:Nat}(he:eqL xs ys=some b)(h:EqK P t L)(ht:tyOk P t true n=true)(hx:ev st x=some (.agg xs))(Z:ev st y=some (.agg ys))(hn:xs.length=n)(kx:xs.map kAV=L)(ky:ys.map kAV=L):
 Pur P C (.binOp .neq t x y yt) ty st (.bool (!b)):=zqn h.h.1 h.h.2.1 h.h.2.2 ht hx Z hn kx ky he
def ziv{I:Im}{ρ:Nat->Value}{b:Bool}{x:AV}{v:Value}(h:RV I ρ (.opt b x) v):(b=true->RV I ρ x v)/\(b=false->v=.tuple #[]):=by
 cases h;simp_all
def zzb{c x:Operand}{b y:Bool}(Z:ev st c=some (.bool b))(hx:ev st x=some (.opt (b==true) (.bool y))):Pur P C (.pick c x (.const (.bool false))) ty st (.bool (b&&y)):=λg a w dst pos af gd hr=>by
 have ec:=zr (yA hr Z);cases b with
 |true=>
  have ex:=zr ((ziv (yA hr hx)).1 rfl);exact⟨a.eval x,by simp[execOp,ec,asBool],by rw[ex];exact .bool _⟩
 |false=>
  have e0:a.eval (.const (.bool false))=.bool false:=rfl;exact⟨.bool false,by simp[execOp,ec,asBool,e0],.bool _⟩
def zCl{c x:Operand}{b y:Bool}(Z:ev st c=some (.bool b))(hx:ev st x=some (.opt (b==false) (.bool y))):Pur P C (.pick c (.const (.bool true)) x) ty st (.bool (b||y)):=λg a w dst pos af gd hr=>by
 have ec:=zr (yA hr Z);cases b with
 |false=>
  have ex:=zr ((ziv (yA hr hx)).1 rfl);exact⟨a.eval x,by simp[execOp,ec,asBool],by rw[ex];exact .bool _⟩
 |true=>
  have e0:a.eval (.const (.bool true))=.bool true:=rfl;exact⟨.bool true,by simp[execOp,ec,asBool,e0],.bool _⟩
def zn9{α:Type}{enc:α->List AV}{l:List α}{x y:Operand}{t E:TypeId}{ag:Bool}{s:Nat}{kk:IntKind}{i:Int}(hx:ev st x=some (.sl enc l))(Z:ev st y=some (.int kk i))
 (h:slOk P t E=true)(hs:tyOk P E ag s=true)[he:EncK enc s][Inhabited α](h0:0<=i)(h1:i<l.length):
 Pur P C (.indexAddr t x y) ty st (.ept enc (l.getD i.toNat default) 0):=zam hx Z h hs he.h h0 (by
 simp_all)
def zec{α:Type}{enc:α->List AV}{u:α}{t:TypeId}{x:Operand}{n j:Nat}{ys:List AV}(hx:ev st x=some (.ept enc u j))(J:((enc u).drop j).take n=ys)(hl:ys.length=n)(hn:AV.nm.nmL ys=true)
 (ht:tyOk P t true n=true):Pur P C (.load t x) ty st (.agg ys):=λg a w dst pos af gd hr=>by
 obtain⟨b,o,vs,e,h1,N⟩:=zil (yA hr hx);have Z:((List.range n).map λi=>vs (j+i)).length=n:=by simp
 have V:∀i c,ys[i]? =some c->i<n/\(enc u)[j+i]? =some c:=λi c U=>by
  grind
 refine⟨.agg ((List.range n).map λi=>vs (j+i)).toArray,?_,.agg _ _ (by rw[Z,hl]) (λi c v U hv=>?_)⟩
 ·have:=zQ (P:=P) (t:=t) ht (b:=b) (o:=o+j) (w:=w) (vs:=(List.range n).map λi=>vs (j+i)) Z (λi v hv=>by
   rw[jN]at hv;by_cases hi:i<n
   ·simp[vP hi]at hv;subst hv;have U:i<ys.length:=by omega
    have T:=(V i _ (jB U)).2;have:=(hr.sat.im _ _ _ (h1 (j+i) (j5.1 T).1)).1;rw[vD];exact this
   ·simp[wF (l:=List.range n) (i:=i) (by simp;omega)]at hv)
  simp_all[execOp,Instr.loadAt,Instr.sureAddr]
 ·obtain⟨hi,T⟩:=V i c U;rw[jN,vP hi]at hv;simp at hv;subst hv;exact(N (j+i) c T).forget (zw hn U)
def yi{x:Operand}{k s i j:Nat}(h:ev st x=some (.ptr k s i j)):Pur P C (.nilCheck x) ty st (.ptr k s i j):=λg a w dst pos af gd hr=>by
 have hv:=yA hr h;obtain⟨b,_,e⟩:=zah hv;simp_all[execOp]
def zjO{α:Type}{enc:α->List AV}{y:α}{x:Operand}{j:Nat}(h:ev st x=some (.ept enc y j)):Pur P C (.nilCheck x) ty st (.ept enc y j):=λg a w dst pos af gd hr=>by
 have hv:=yA hr h
 have⟨b,o,e⟩:∃b o,a.eval x=.pointer (some ⟨b,o,none⟩):=by
  generalize a.eval x=v at hv;cases hv with|ept _ _ _ b o vs hI hv=>exact⟨b,_,rfl⟩
 simp_all[execOp]
def zhP{t n E s:Nat}{ag:Bool}{x y:Operand}{k z i j:Nat}{kk:IntKind}{q:Int}(hx:ev st x=some (.ptr k z i j))(Z:ev st y=some (.int kk q))(ht:zcr P t n E=true)(hE:tyOk P E ag s=true)(h0:0<=q)(h1:q<n):
 Pur P C (.indexAddr t x y) ty st (.ptr k z i (j+q.toNat*s)):=λg a w dst pos af gd hr=>by
 obtain⟨b,V,e⟩:=zah (yA hr hx);have ey:=y5 (yA hr Z);refine⟨.pointer (some ⟨b,i*z+j+q.toNat*s,none⟩),?_,?_⟩
 ·simp[execOp,Instr.indexAt,asIntOf,Instr.sureAddr,e,ey,run_underlying (zcg ht),h0,h1,yZ hE,zP]
 ·have:=RV.ptr (I:=g.I) (ρ:=g.ρ) k z i (j+q.toNat*s) b V
  grind
def yK{op:Op}{x:AV}(h:Pur P C op ty st x:=by
 first
  |exact zl0 rfl
  |exact zcf rfl
  |exact zqj rfl rfl
  |exact zal rfl rfl rfl TyK.h
  |exact zaU rfl rfl rfl TyK.h
  |exact zjq rfl rfl rfl rfl TyK.h
  |exact zjr rfl rfl rfl TyK.h
  |exact zec rfl rfl rfl rfl TyK.h
  |exact zh6 rfl rfl rfl rfl TyK.h
  |exact zbm rfl rfl (by assumption) rfl rfl TyK.h
  |exact zeb rfl FoK.h
  |exact zh5 rfl FoK.h
  |exact zam rfl rfl SlK.h TyK.h (λ_=>rfl) (by omega) (by assumption)
  |exact zeP rfl rfl rfl SlK.h TyK.h (by omega) (by omega)
  |exact zn9 rfl rfl SlK.h TyK.h (by omega) (by omega)
  |exact zg3 rfl SlK.h
  |exact zfj rfl rfl SlK.h
  |exact zd4 rfl SlK.h
  |exact zsm rfl rfl
  |exact zB7 rfl rfl
  |exact zB8 rfl rfl
  |exact zB9 rfl rfl
  |exact zCa rfl rfl
  |exact zCb rfl rfl
  |exact zB5 rfl rfl (v6 _ (by omega))
  |exact zpr rfl rfl (v6 _ (by omega))
  |exact zB6 rfl rfl (v6 _ (by omega))
  |exact zy3 rfl rfl (by omega) (by omega) (by omega)
  |exact zy4 rfl rfl (by omega) (by omega)
  |exact P_quo rfl rfl (by omega) (v6 _ (by omega))
  |exact zwU rfl rfl (by omega)
  |exact zzb rfl rfl
  |exact zCl rfl rfl
  |exact P_and rfl rfl
  |exact P_or rfl rfl
  |exact zm4 rfl (by first|assumption|rfl|omega|(simp;done)|(simp;omega)|(simp_all;done)|fail) rfl
  |exact zg7 rfl (by first|assumption|rfl|omega|(simp;done)|(simp;omega)|(simp_all;done)|fail) rfl
  |exact zCd rfl
  |exact zCc rfl (v6 _ (by omega))
  |exact zuB PlK.h.1 PlK.h.2 ZcK.h rfl rfl rfl
  |exact zn0 ArK.h TyK.h ZcK.h rfl rfl rfl
  |exact zl3 ArK.h TyK.h rfl rfl (by omega) (by omega) (by first|rfl|assumption)
  |exact zI ArK.h TyK.h rfl rfl (by omega) (by omega) (by first|rfl|assumption)
  |exact zgj rfl
  |exact P_nilCheck_fn rfl
  |exact P_convert rfl UnK.h UsK.h (v6 _ (by omega))
  |exact zha (zpC _ _) inferInstance TyK.h rfl rfl rfl rfl rfl
  |exact zeZ (zpC _ _) inferInstance TyK.h rfl rfl rfl rfl rfl
  |exact zha (zpB _ _) inferInstance TyK.h rfl rfl rfl rfl rfl
  |exact zeZ (zpB _ _) inferInstance TyK.h rfl rfl rfl rfl rfl
  |exact zha (eqL_mnE _ _) inferInstance TyK.h rfl rfl rfl rfl rfl
  |exact zeZ (eqL_mnE _ _) inferInstance TyK.h rfl rfl rfl rfl rfl
  |exact zha rfl inferInstance TyK.h rfl rfl rfl rfl rfl
  |exact zeZ rfl inferInstance TyK.h rfl rfl rfl rfl rfl
  |exact zn1 (by kernel_rfl) rfl rfl
  |exact zn2 (by kernel_rfl) rfl rfl
  |exact yi rfl
  |exact zjO rfl
  |exact zhP rfl rfl ArK.h TyK.h (by omega) (by omega)):Pur P C op ty st x:=h
section
variable{ops:Array Oper}{rest:List Oper}{dst:Option Tmp}{d:Nat}{op:Op}{pos:String}{af:Array Edge}{x:AV}
def ya(h:Ex P C ops rest ⟨(d,x)::st.t,st.h⟩ Q)(hs:Pur P C op ty st x:=by exact yK)(Z:d.blt C.n=true:=by exact rfl):
 Ex P C ops ({dst:=some d,op:=op,type:=ty,pos:=pos,after:=af,guard:=none}::rest) st Q:=zo hs Z h
def yj(h:Q .normal ⟨(d,x)::st.t,st.h⟩)(hs:Pur P C op ty st x:=by exact yK)(Z:d.blt C.n=true:=by exact rfl):Ex P C ops ({dst:=some d,op:=op,type:=ty,pos:=pos,after:=af,guard:=none}::[]) st Q:=zo hs Z (Ex.nil h)
def yF{ops:Array Oper}{core:List (Nat×List Nat)}{fl l:List Fl}{b:St}{j:Nat}(h:zhw P C ops core fl b j l:=by(repeat'(first|exact True.intro|refine⟨.inl rfl,?_⟩|refine⟨.inr ⟨_,rfl,rfl,rfl,rfl,Pur.stepA yK⟩,?_⟩|refine⟨.inr ⟨_,rfl,rfl,rfl,rfl,Pur.stepA (yi rfl)⟩,?_⟩|refine⟨.inr ⟨_,rfl,rfl,rfl,rfl,Pur.stepA (y8 rfl rfl)⟩,?_⟩|refine⟨.inr ⟨_,rfl,rfl,rfl,rfl,Pur.stepA (P_fieldAddr rfl rfl rfl)⟩,?_⟩))):zhw P C ops core fl b j l:=h
def yQ{d1:Nat}{op1:Op}{ty1:TypeId}{pos1:String}{af1:Array Edge}{x1:AV}(h:Q .normal ⟨(d1,x1)::(d,x)::st.t,st.h⟩)(hs:Pur P C op ty st x:=by exact yK)(U:d.blt C.n=true:=by exact rfl)(Z:Pur P C op1 ty1 ⟨(d,x)::st.t,st.h⟩ x1:=by exact yK)(V:d1.blt C.n=true:=by exact rfl):Ex P C ops [{dst:=some d,op:=op,type:=ty,pos:=pos,after:=af,guard:=none},{dst:=some d1,op:=op1,type:=ty1,pos:=pos1,after:=af1,guard:=none}] st Q:=ya (yj h Z V) hs U
def yC{d1:Nat}{op1:Op}{ty1:TypeId}{pos1:String}{af1:Array Edge}{x1:AV}{d2:Nat}{op2:Op}{ty2:TypeId}{pos2:String}{af2:Array Edge}{x2:AV}(h:Q .normal ⟨(d2,x2)::(d1,x1)::(d,x)::st.t,st.h⟩)(hs:Pur P C op ty st x:=by exact yK)(N:d.blt C.n=true:=by exact rfl)(Z:Pur P C op1 ty1 ⟨(d,x)::st.t,st.h⟩ x1:=by exact yK)(V:d1.blt C.n=true:=by exact rfl)(U:Pur P C op2 ty2 ⟨(d1,x1)::(d,x)::st.t,st.h⟩ x2:=by exact yK)(T:d2.blt C.n=true:=by exact rfl):Ex P C ops [{dst:=some d,op:=op,type:=ty,pos:=pos,after:=af,guard:=none},{dst:=some d1,op:=op1,type:=ty1,pos:=pos1,after:=af1,guard:=none},{dst:=some d2,op:=op2,type:=ty2,pos:=pos2,after:=af2,guard:=none}] st Q:=ya (ya (yj h U T) Z V) hs N
def zkP(h:Q .ret st):Ex P C ops [] st (zdK (λst=>X P C .ret st Q) Q):=Ex.nil (X.ret h)
def lgg{α:Type _}{l:List α}{i:Nat}(h:i<l.length):l[i]? =some l[i]:=jB h
def yR{fop:Operand}{args:Array Operand}{ts:Array TypeId}{f:FuncId}{caps xs:List AV}{r:AV}
 (Z:Fn P f (xs++caps) r)(h:Ex P C ops rest ⟨(d,r)::st.t,st.h⟩ Q)(hf:ev st fop=some (.fn f caps):=by exact rfl)(hx:evs st args.toList=some xs:=by exact rfl)(hn:AV.nm.nmL (xs++caps)=true:=by exact rfl)(V:d.blt C.n=true:=by exact rfl):
 Ex P C ops ({dst:=some d,op:=.call {callee:=.value fop,args:=args,argTypes:=ts},type:=ty,pos:=pos,after:=af,guard:=none}::rest) st Q:=Ex.call hf hx hn Z V h
def ze0{T:TypeId}{o:Operand}{y:AV}(h:Ex P C ops rest (addSt st (some d) (.ptr d 0 0 0) (some (d,.box [y] T))) Q)(hx:ev st o=some y:=by exact rfl)(hs:y.sc=true:=by exact rfl)(hf:y.fr d=true:=by exact rfl)(Z:dOk C.n (some d)=true:=by exact rfl)(hn:nbOk st (some (d,.box [y] T))=true:=by exact rfl):
 Ex P C ops ({dst:=some d,op:=.box T o,type:=ty,pos:=pos,after:=af,guard:=none}::rest) st Q:=Ex.stepA (zCe hx hs hf) Z hn h
def zz{T:TypeId}{o:Operand}{cs:List AV}(h:Ex P C ops rest (addSt st (some d) (.ptr d 0 0 0) (some (d,.box cs T))) Q)(hx:ev st o=some (.agg cs):=by exact rfl)(hf:AV.fr.frL d cs=true:=by exact rfl)(Z:dOk C.n (some d)=true:=by exact rfl)(hn:nbOk st (some (d,.box cs T))=true:=by exact rfl):
 Ex P C ops ({dst:=some d,op:=.box T o,type:=ty,pos:=pos,after:=af,guard:=none}::rest) st Q:=Ex.stepA (zfl hx hf) Z hn h
def za{T:TypeId}{cs:List AV}[Z:ZcK P T cs](h:Ex P C ops rest (addSt st (some d) (.ptr d 0 0 0) (some (d,.box cs T))) Q)(V:dOk C.n (some d)=true:=by exact rfl)(hn:nbOk st (some (d,.box cs T))=true:=by exact rfl):
 Ex P C ops ({dst:=some d,op:=.alloc T,type:=ty,pos:=pos,after:=af,guard:=none}::rest) st Q:=Ex.stepA (zp Z.h) V hn h
def yD{α:Type}(enc:α->List AV)(l:List α){t E:TypeId}{ag:Bool}{s n:Nat}{parts:Array (Nat×Operand)}{ps:List (Nat×AV)}{z:Value}(h:Ex P C ops rest (addSt st (some d) (.own d) (some (d,.row enc l E s))) Q)
 (ht:slOk P t E=true:=by exact SlK.h)(hE:tyOk P E ag s=true:=by exact TyK.h)(T:(P.info? E).bind (·.zero)=some z:=by exact ZeK.h)
 (Z:0<s:=by decide)(N:zbO st parts.toList=some ps:=by exact rfl)(hk:zcz ps=true:=by exact rfl)(hf:zfL (λi=>some (i*s,s)) (List.replicate (n*s) .any) ps=some (l.flatMap enc):=by exact rfl)(V:l.length=n:=by exact rfl)(hn:n*s<=16777216:=by decide)(hm:n<=1000000:=by decide)
 (hs:∀x,(enc x).length=s:=by intro _;rfl)(hnm:AV.nm.nmL (l.flatMap enc)=true:=by exact rfl)(J:dOk C.n (some d)=true:=by exact rfl)(U:nbOk st (some (d,.row enc l E s))=true:=by exact rfl):
 Ex P C ops ({dst:=some d,op:=.buildSlice t n parts,type:=ty,pos:=pos,after:=af,guard:=none}::rest) st Q:=Ex.stepA (zaj ht hE T Z N hk hf V hn hm hs hnm) J U h
def Ex.mo{st':St}(h:Ex P C ops rest st' Q)(hs:yz P C op ty dst st st':=by
 first
  |exact zU rfl rfl rfl rfl TyK.h (ltB rfl)
  |exact zaV rfl rfl rfl rfl TyK.h rfl (leB rfl)
  |exact zd5 rfl rfl rfl rfl SlK.h TiK.h (by decide) (by decide) (λ_=>rfl) (λ_=>rfl) (by first|omega|(simp;done)|(simp;omega)|(simp_all;omega)|fail) rfl
  |exact zL rfl rfl rfl SlK.h TiK.h (by decide) (by decide) (λ_=>rfl) (λ_=>rfl) (by first|omega|(simp;done)|(simp;omega)|(simp_all;omega)|fail) rfl
  |exact zeX _ rfl rfl (λ_=>rfl) (by decide) (by first|omega|(simp;done)|(simp;omega)|(simp_all;omega)|fail) rfl rfl rfl rfl rfl TyK.h):
  Ex P C ops ({dst:=dst,op:=op,type:=ty,pos:=pos,after:=af,guard:=none}::rest) st Q:=zas hs h
end
def yd{ts:List (Nat×AV)}{hs:List (Nat×Blk)}(h1:impT st ts:=by
 repeat'(first|exact True.intro|(refine And.intro ⟨_,rfl,?_⟩ ?_;(first|exact LeV.refl _|exact LeV.any _|exact LeB.refl _|(refine LeV.eq ?_;simp;done)|(refine LeV.eq ?_;congr 1;omega)|(refine LeV.eq ?_;dsimp only;congr 1;omega)|(refine LeV.eq (j9 (AV.int _) ?_);omega)|exact LeV.nils _|(refine LeV.eq ?_;congr 1;assumption)))))(Z:impH st hs:=by
 repeat'(first|exact True.intro|(refine And.intro ⟨_,rfl,?_⟩ ?_;(first|exact LeB.refl _|exact LeB.row (by assumption)|(refine LeB.eq ?_;congr 1;omega)|(refine LeB.eq ?_;congr 1;simp only[cond_true,cond_false];omega))))):Imp C st ⟨ts,hs⟩:=Imp.of h1 Z
def zen{ι:Type}{c:Code}(I:ι->List (Nat×AV))(H:ι->List (Nat×Blk))(J:ι->Prop)(μ:ι->Nat)(i0:ι)(h:∀i,J i->X P C c ⟨I i,H i⟩ (zdK (λst'=>∃i',Imp C st' ⟨I i',H i'⟩/\J i'/\μ i'<μ i) Q))
 (hJ:J i0:=by first|trivial|omega|(refine⟨?_,?_⟩<;>omega))(h0:Imp C st ⟨I i0,H i0⟩:=by exact yd):X P C (.loop c) st Q:=X.loop (λi=>⟨I i,H i⟩) J μ i0 h0 hJ h
class BP(b:Bool)(p n:outParam Prop):Prop where
 t:b=true->p
 f:b=false->n
instance(priority:=10)bp0{b:Bool}:BP b (b=true) (b=false):=⟨id,id⟩
instance(priority:=20)bp1{p:Prop}{i:Decidable p}:BP (@decide p i) p (¬p):=⟨λh=>by simpa using h,λh=>by simpa using h⟩
instance(priority:=30)bp2{x y:Int}{i:Decidable (x<y)}:BP (@decide (x<y) i) (x<y) (y<=x):=⟨λh=>by simpa using h,λh=>by simpa using h⟩
instance(priority:=30)bp3{x y:Int}{i:Decidable (x<=y)}:BP (@decide (x<=y) i) (x<=y) (y<x):=⟨λh=>by simpa using h,λh=>by simpa using h⟩
instance(priority:=30)bp4{b:Bool}{p n:Prop}[h:BP b p n]:BP (!b) n p:=⟨λe=>h.f (by simpa using e),λe=>h.t (by simpa using e)⟩
instance(priority:=30)bp5{a b:Bool}{p n q m:Prop}[h:BP a p n][Z:BP b q m]:BP (a&&b) (p/\q) (n\/m):=⟨λe=>by simp at e;exact⟨h.t e.1,Z.t e.2⟩,λe=>by
 cases a with
 |false=>exact .inl (h.f rfl)
 |true=>exact .inr (Z.f (by simpa using e))⟩
instance(priority:=30)bp6{a b:Bool}{p n q m:Prop}[h:BP a p n][Z:BP b q m]:BP (a||b) (p\/q) (n/\m):=⟨λe=>by
 cases a with
 |true=>exact .inl (h.t rfl)
 |false=>exact .inr (Z.t (by simpa using e)),λe=>by simp at e;exact⟨h.f e.1,Z.f e.2⟩⟩
instance(priority:=40)bp7{b:Bool}{p n:Prop}[h:BP b p n]:BP (b==true) p n:=⟨λe=>h.t (by simpa using e),λe=>h.f (by simpa using e)⟩
instance(priority:=40)bp8{b:Bool}{p n:Prop}[h:BP b p n]:BP (b==false) n p:=⟨λe=>h.f (by simpa using e),λe=>h.t (by simpa using e)⟩
def zzc{c:Operand}{x y:Code}{b:Bool}{p n:Prop}(hc:ev st c=some (.bool b))[h:BP b p n](ht:p->X P C x st Q)(hf:n->X P C y st Q):X P C (.cond c x y) st Q:=X.cond hc (λe=>ht (h.t e)) (λe=>hf (h.f e))
def Fn.go{f:FuncId}{fn:Func}{c:Code}{n:Nat}{az:List AV}{rv:List ResultVar}{r:AV}(hf:P.funcs[f]? =some fn)(hn:fn.ntmps=n)(h:∀g w d,X P (C0 n d g w) c ⟨zbx 0 az,[]⟩ (RetQ P (C0 n d g w) rv r))(U:fn.body=some c:=by exact rfl)
 (V:fn.results=rv.toArray:=by exact rfl)(T:zan P f=true:=by kernel_rfl)(hnm:r.nm=true:=by exact rfl)(Z:az.length<=n:=by simp):Fn P f az r:=Fn.intro T hf U hn V hnm rfl Z h
end
def tb(m i:Nat):Bool:=((m>>>i)%2).beq 1
def bits(n m:Nat):List Nat:=(List.range n).filter (tb m ·)
theorem zhx{n m i:Nat}(h:i<n):memb i (bits n m)=tb m i:=by
 grind[zt,bits]
structure FactM:Type 1 where
 i:Nat
 d:Option Nat
 x:AV
 nb:Option (Nat×Blk)
 m:Nat
 g:List (Nat×Bool)
def zaY:List FactM->Nat->Bool->Bool
 |[],_,_=>false
 |⟨i,_,x,_,_,_⟩::r,j,w=>bif i.beq j then(match x with|.bool b=>b==w|_=>false)else zaY r j w
def ze(fs:List FactM):List (Nat×Bool)->Bool
 |[]=>true
 |[(j,w)]=>zaY fs j w
 |(j,w)::e::r=>zaY fs j w&&ze fs (e::r)
def zbp(fs:List FactM)(e:Nat×Bool)(r:List (Nat×Bool)):ze fs (e::r)=(zaY fs e.1 e.2&&ze fs r):=by
 cases r<;>simp[ze]
def eqCh:List (Nat×Bool)->List (Nat×Bool)->Bool
 |[],[]=>true
 |(i,a)::r,(j,b)::q=>i.beq j&&(a==b)&&eqCh r q
 |_,_=>false
theorem zl8:∀{a b:List (Nat×Bool)},eqCh a b=true->a=b
 |[],[],_=>rfl
 |[],_::_,h=>by simp[eqCh]at h
 |_::_,[],h=>by simp[eqCh]at h
 |(i,a)::r,(j,b)::q,h=>by
  simp only[eqCh,jA]at h;obtain⟨⟨h1,Z⟩,V⟩:=h;have h1:i=j:=by simpa using h1
  have Z:a=b:=by simpa using Z
  have U:r=q:=zl8 V;simp_all
def sfx(s:List (Nat×Bool)):List (Nat×Bool)->Bool
 |[]=>eqCh s []
 |e::r=>eqCh s (e::r)||sfx s r
def relG(G:List (Nat×Bool)):List (Nat×Bool)->List (Nat×Bool)
 |[]=>[]
 |e::r=>bif sfx (e::r) G then[]else e::relG G r
def optV(c:Bool)(g:List (Nat×Bool))(x:AV):AV:=match g with|[]=>x|_::_=>.opt c x
def zpD(fs:List FactM)(G g:List (Nat×Bool))(x:AV):AV:=match relG G g with|[]=>x|e::q=>.opt (ze fs (e::q)) x
theorem zkQ{fs:List FactM}{s:List (Nat×Bool)}:∀{G:List (Nat×Bool)},sfx s G=true->ze fs G=true->ze fs s=true
 |[],h,Z=>by grind[zl8,sfx]
 |e::r,h,Z=>by
  simp only[sfx,wJ]at h;rcases h with h|h
  ·rw[zl8 h];exact Z
  ·rw[zbp,jA]at Z;exact zkQ h Z.2
def zkR{fs:List FactM}{G:List (Nat×Bool)}(Z:ze fs G=true):∀g,ze fs g=ze fs (relG G g)
 |[]=>rfl
 |e::r=>by
  simp only[relG];cases hs:sfx (e::r) G with
  |true=>grind[zkQ,ze]
  |false=>simp only[cond_false];rw[zbp,zbp,zkR Z r]
def zpE{fs:List FactM}{G g:List (Nat×Bool)}{x:AV}{I:Im}{ρ:Nat->Value}{v:Value}(V:ze fs G=true)(h:RV I ρ (optV (ze fs g) g x) v):RV I ρ (zpD fs G g x) v:=by
 have hr:=zkR V g;unfold zpD;cases Z:relG G g with
 |nil=>
  rw[Z]at hr;have hr:ze fs g=true:=hr;cases g with
  |nil=>exact h
  |cons e r=>exact(ziv h).1 hr
 |cons e q=>
  rw[Z]at hr;cases g with
  |nil=>simp[relG]at Z
  |cons e' r=>
   have h:RV I ρ (.opt (ze fs (e'::r)) x) v:=h
   grind
def WF:List FactM->Prop
 |[]=>True
 |f::r=>(∀f'∈r,f'.i<f.i)/\(∀e∈f.g,∃f'∈r,f'.i=e.1)/\WF r
def zne{f:FactM}{r:List FactM}{j:Nat}{w:Bool}(h:f.i≠j):zaY (f::r) j w=zaY r j w:=by
 obtain⟨i,d,x,nb,m,g⟩:=f;show(bif i.beq j then _ else zaY r j w)=_;rw[beqF.2 h];rfl
def zjP{f:FactM}{r:List FactM}:∀{g:List (Nat×Bool)},(∀e∈g,f.i≠e.1)->ze (f::r) g=ze r g
 |[],_=>rfl
 |e::q,h=>by rw[zbp,zbp,zne (h e (by simp)),zjP λe he=>h e (by simp[he])]
def toL(n:Nat):List FactM->List Fact
 |[]=>[]
 |f::r=>⟨f.i,f.d,optV (ze r f.g) f.g f.x,f.nb,bits n f.m⟩::toL n r
def selR(m:Nat)(b:List (Nat×AV)):List FactM->List (Nat×AV)
 |[]=>b
 |⟨i,d,x,_,_,g⟩::r=>bif tb m i then consT d (optV (ze r g) g x) (selR m b r)else selR m b r
def zpF(fs:List FactM)(d:Option Nat)(x:AV)(l:List (Nat×AV)):List (Nat×Bool)->List (Nat×AV)
 |[]=>consT d x l
 |e::q=>consT d (.opt (ze fs (e::q)) x) l
def znf(fs:List FactM)(G g:List (Nat×Bool))(d:Option Nat)(x:AV)(l:List (Nat×AV)):zpF fs d x l (relG G g)=consT d (zpD fs G g x) l:=by
 grind[zpD,zpF]
def selV(fs:List FactM)(G:List (Nat×Bool))(m:Nat)(b:List (Nat×AV)):List FactM->List (Nat×AV)
 |[]=>b
 |⟨i,d,x,_,_,g⟩::r=>bif tb m i then zpF fs d x (selV fs G m b r) (relG G g)else selV fs G m b r
def zkS(m:Nat)(b:List (Nat×Blk)):List FactM->List (Nat×Blk)
 |[]=>b
 |⟨i,_,_,nb,_,_⟩::r=>bif tb m i then zkI nb (zkS m b r)else zkS m b r
def allR(b:List (Nat×AV)):List FactM->List (Nat×AV)
 |[]=>b
 |⟨_,d,x,_,_,g⟩::r=>consT d (optV (ze r g) g x) (allR b r)
def allV(fs:List FactM)(G:List (Nat×Bool))(b:List (Nat×AV)):List FactM->List (Nat×AV)
 |[]=>b
 |⟨_,d,x,_,_,g⟩::r=>zpF fs d x (allV fs G b r) (relG G g)
def zkT(b:List (Nat×Blk)):List FactM->List (Nat×Blk)
 |[]=>b
 |⟨_,_,_,nb,_,_⟩::r=>zkI nb (zkT b r)
def stR(st:St)(hid:List Nat)(m:Nat)(fs:List FactM):St:=⟨selR m (rmK hid st.t) fs,zkS m st.h fs⟩
def stV(st:St)(hid:List Nat)(m:Nat)(fs:List FactM)(G:List (Nat×Bool)):St:=⟨selV fs G m (rmK hid st.t) fs,zkS m st.h fs⟩
def zhb(st:St)(hid:List Nat)(fs:List FactM):St:=⟨allV fs [] (rmK hid st.t) fs,zkT st.h fs⟩
def zpG(n:Nat):∀fs:List FactM,(toL n fs).map (·.i)=fs.map (·.i)
 |[]=>rfl
 |f::r=>by simp[toL,zpG n r]
def zsG{n m:Nat}{b:List (Nat×AV)}:∀{fs:List FactM},(∀f∈fs,f.i<n)->selT (bits n m) b (toL n fs)=selR m b fs
 |[],_=>rfl
 |f::r,h=>by
  have ih:=zsG (b:=b) (m:=m) (fs:=r) λf hf=>h f (by simp[hf])
  simp_all[toL,selT,selR,zhx]
def zsH{n m:Nat}{b:List (Nat×Blk)}:∀{fs:List FactM},(∀f∈fs,f.i<n)->selH (bits n m) b (toL n fs)=zkS m b fs
 |[],_=>rfl
 |f::r,h=>by
  have ih:=zsH (b:=b) (m:=m) (fs:=r) λf hf=>h f (by simp[hf])
  simp_all[toL,selH,zkS,zhx]
def zsI{st:St}{hid:List Nat}{n m:Nat}{fs:List FactM}(h:∀f∈fs,f.i<n):stOf st hid (bits n m) (toL n fs)=stR st hid m fs:=by
 unfold stOf stR;rw[zsG h,zsH h]
def zng{n:Nat}{az:List Nat}{b:List (Nat×AV)}:∀{fs:List FactM},(∀f∈fs,memb f.i az=true)->selT az b (toL n fs)=allR b fs
 |[],_=>rfl
 |f::r,h=>by
  have ih:=zng (n:=n) (b:=b) (az:=az) (fs:=r) λf hf=>h f (by simp[hf])
  simp_all[toL,selT,allR]
def znh{n:Nat}{az:List Nat}{b:List (Nat×Blk)}:∀{fs:List FactM},(∀f∈fs,memb f.i az=true)->selH az b (toL n fs)=zkT b fs
 |[],_=>rfl
 |f::r,h=>by
  have ih:=znh (n:=n) (b:=b) (az:=az) (fs:=r) λf hf=>h f (by simp[hf])
  simp_all[toL,selH,zkT]
inductive LeT(I:Im)(ρ:Nat->Value):List (Nat×AV)->List (Nat×AV)->Prop
 |refl(l:List (Nat×AV)):LeT I ρ l l
 |cons{t:Nat}{x y:AV}{l l':List (Nat×AV)}(hx:∀v,RV I ρ x v->RV I ρ y v)(h:LeT I ρ l l'):LeT I ρ ((t,x)::l) ((t,y)::l')
theorem LeT.lk{I:Im}{ρ:Nat->Value}{l l':List (Nat×AV)}(h:LeT I ρ l l'):∀{t:Nat}{y:AV},Rse.lk l' t=some y->∃x,Rse.lk l t=some x/\∀v,RV I ρ x v->RV I ρ y v:=by
 induction h with
 |refl l=>exactλ{t y}e=>⟨y,e,λv h=>h⟩
 |@cons t0 x y l l' hx _ ih=>
  intro t z e;rw[yq]at e⊢;cases Z:t0.beq t with
  |true=>rw[Z]at e;simp at e;subst e;exact⟨x,by simp,hx⟩
  |false=>rw[Z]at e;simp at e;obtain⟨x',h1,V⟩:=ih e;exact⟨x',by simpa using h1,V⟩
theorem LeT.consT{I:Im}{ρ:Nat->Value}{d:Option Nat}{x y:AV}{l l':List (Nat×AV)}(hx:∀v,RV I ρ x v->RV I ρ y v)(h:LeT I ρ l l'):LeT I ρ (Rse.consT d x l) (Rse.consT d y l'):=by
 cases d with
 |none=>exact h
 |some d=>exact .cons hx h
def Suf(r fs:List FactM):Prop:=∀g:List (Nat×Bool),(∀e∈g,∃f'∈r,f'.i=e.1)->ze r g=ze fs g
def Suf.tl{f:FactM}{r fs:List FactM}(h:Suf (f::r) fs)(Z:WF (f::r)):Suf r fs:=λg V=>by
 rw[←h g λe he=>by grind];exact(zjP λe he=>by obtain⟨f',h1,U⟩:=V e he;have:=Z.1 f' h1;omega).symm
def zpH{I:Im}{ρ:Nat->Value}{fs:List FactM}{G:List (Nat×Bool)}{m:Nat}{b:List (Nat×AV)}(V:ze fs G=true):∀{r:List FactM},WF r->Suf r fs->LeT I ρ (selR m b r) (selV fs G m b r)
 |[],_,_=>.refl _
 |f::r,Z,hs=>by
  have ih:=zpH (I:=I) (ρ:=ρ) (m:=m) (b:=b) V Z.2.2 (hs.tl Z);have U:ze r f.g=ze fs f.g:=(hs.tl Z) f.g Z.2.1;obtain⟨i,d,x,nb,mm,g⟩:=f;simp only[selR,selV,znf];cases tb m i with
  |true=>exact .consT (λv hv=>zpE V (by grind)) ih
  |false=>exact ih
def zl9{I:Im}{ρ:Nat->Value}{fs:List FactM}{G:List (Nat×Bool)}{b:List (Nat×AV)}(V:ze fs G=true):∀{r:List FactM},WF r->Suf r fs->LeT I ρ (allR b r) (allV fs G b r)
 |[],_,_=>.refl _
 |f::r,Z,hs=>by
  have ih:=zl9 (I:=I) (ρ:=ρ) (b:=b) V Z.2.2 (hs.tl Z);have U:ze r f.g=ze fs f.g:=(hs.tl Z) f.g Z.2.1;obtain⟨i,d,x,nb,mm,g⟩:=f;simp only[allR,allV,znf];exact .consT (λv hv=>zpE V (by grind)) ih
def Rel.view{C:Ctx}{st st':St}{g:Gh}{a:Act}{w:World}(h:Rel C st g a w)(Z:st'.h=st.h)(ht:LeT g.I g.ρ st.t st'.t):Rel C st' g a w:=
 Rel.slots h Z λt x hx=>by obtain⟨y,h1,V⟩:=ht.lk hx;exact V _ (h.tmps t y h1)
def Rel.selV{C:Ctx}{st:St}{hid:List Nat}{m:Nat}{fs:List FactM}{G:List (Nat×Bool)}{g:Gh}{a:Act}{w:World}(Z:WF fs)(V:ze fs G=true)(h:Rel C (stR st hid m fs) g a w):Rel C (stV st hid m fs G) g a w:=
 h.view rfl (zpH V Z λ_ _=>rfl)
def zpI:FactM->FactM->Bool
 |⟨_,d,x,nb,m,_⟩,⟨i',d',x',nb',_,_⟩=>
  (match d,d' with|some d,some d'=>!(d.beq d')|_,_=>true)&&
  (match nb with|some (k,_)=>x'.fr k&&nbFr nb' k|none=>true)&&
  (match nb' with|some (k,_)=>tb m i'||(x.fr k&&nbFr nb k)|none=>true)
def okFM(st:St)(hid:List Nat):List FactM->Bool
 |[]=>true
 |⟨i,d,x,nb,m,g⟩::r=>(match d with|some d=>memb d hid|none=>true)&&nbOk st nb&&r.all (zpI ⟨i,d,x,nb,m,g⟩)&&okFM st hid r
theorem zuH(c:Bool)(g:List (Nat×Bool))(x:AV)(k:Nat):(optV c g x).fr k=x.fr k:=by cases g<;>rfl
def zpJ{n:Nat}:∀{fs:List FactM}{F:Fact},F∈toL n fs->∃f∈fs,∃c,F=⟨f.i,f.d,optV c f.g f.x,f.nb,bits n f.m⟩
 |[],F,h=>by simp[toL]at h
 |f::r,F,h=>by
  rcases wA.1 (show F∈_::toL n r from h)with e|h1
  ·grind
  ·obtain⟨f',Z,c,V⟩:=zpJ h1
   grind
def zsJ{st:St}{hid:List Nat}{n:Nat}:∀{fs:List FactM},(∀f∈fs,f.i<n)->okFM st hid fs=true->okF st hid (toL n fs)=true
 |[],_,_=>rfl
 |f::r,h,hk=>by
  simp only[okFM,jA]at hk;obtain⟨⟨⟨h1,U⟩,V⟩,T⟩:=hk;simp only[toL,okF,jA];refine⟨⟨⟨h1,U⟩,?_⟩,zsJ (λf hf=>h f (by simp[hf])) T⟩;rw[jF]at V⊢;intro F N;obtain⟨f0,Z,c,rfl⟩:=zpJ N;have:=V f0 Z;have h0:=h f0 (by simp[Z]);obtain⟨i,d,x,nb,m,g⟩:=f;obtain⟨i',d',x',nb',m',g'⟩:=f0
  grind[zpI,zeS,zuH,zhx]
def zcA:List FactM->Nat->List (Nat×Bool)
 |[],_=>[]
 |⟨i,_,_,_,_,g⟩::r,j=>bif i.beq j then g else zcA r j
def hasI:List FactM->Nat->Bool
 |[],_=>false
 |⟨i,_,_,_,_,_⟩::r,j=>i.beq j||hasI r j
def zpK:∀{fs:List FactM}{j:Nat},hasI fs j=true->∃f∈fs,f.i=j
 |[],j,h=>by simp[hasI]at h
 |⟨i,d,x,nb,m,g⟩::r,j,h=>by
  simp only[hasI,wJ,Nat.beq_eq]at h;rcases h with h|h
  ·simp_all
  ·obtain⟨f,h1,Z⟩:=zpK h
   grind
def zc8(fs:List FactM):List (Nat×Bool)->Bool
 |[]=>true
 |(j,_)::r=>hasI fs j&&zc8 fs r
def za2{fs:List FactM}:∀{g:List (Nat×Bool)},zc8 fs g=true->∀e∈g,∃f'∈fs,f'.i=e.1
 |[],_,e,he=>by simp at he
 |(j,w)::r,h,e,he=>by
  simp only[zc8,jA]at h;rcases wA.1 he with rfl|he
  ·exact zpK h.1
  ·exact za2 h.2 e he
def zoa(ops:Array Oper)(ms:List Nat):Bool:=(List.range ops.size).all λi=>zeR ops i (bits ops.size (ms.getD i 0))
def zhQ{C:Ctx}{st:St}{g:Gh}{a:Act}{w:World}{ops:Array Oper}{i t:Nat}{b c0:Bool}{g0:List (Nat×Bool)}(hr:Rel C st g a w)(hi:(ops[i]?).bind (·.dst)=some t)(Z:lk st.t t=some (optV c0 g0 (.bool b)))(h0:g0=[]->c0=true):yielded ops a.tmps i=if c0=true then some b else none:=by
 have hv:=hr.tmps t _ Z
 have hv:RV g.I g.ρ (.opt c0 (.bool b)) (a.tmps.getD t undef):=by
  cases g0 with
  |nil=>rw[h0 rfl];exact .opt _ _ _ (λ_=>hv) (λh=>by cases h)
  |cons e r=>exact hv
 obtain⟨h1,V⟩:=ziv hv;cases c0 with
 |true=>
  have e:=zr (h1 rfl)
  have:a.tmps[t]? =some (.bool b):=by
   simp only[jM]at e
   grind[undef]
  simp[yielded,hi,this]
 |false=>
  have e:=V rfl
  have:a.tmps[t]? =some (.tuple #[])\/a.tmps[t]? =none:=by
   simp only[jM]at e;cases h:a.tmps[t]? with
   |none=>exact .inr rfl
   |some u=>rw[h]at e;exact .inl (by rw[show u=.tuple #[]from e])
  all_goals grind[yielded]
inductive ChM(P:Program)(C:Ctx)(ops:Array Oper)(ms:List Nat)(st:St)(hid:List Nat)(Q:Exit->St->Prop):Nat->List FactM->Prop
 |step{i m:Nat}{fs:List FactM}{o:Oper}{x:AV}{nb:Option (Nat×Blk)}(hm:ms[i]? =some m)(ho:ops[i]? =some o)(hg:o.guard=none)(hs:yy P C o.op o.type (stV st hid m fs []) x nb)(hd:dOk C.n o.dst=true)(h:ChM P C ops ms st hid Q (i+1) (⟨i,o.dst,x,nb,m,[]⟩::fs)):ChM P C ops ms st hid Q i fs
 |guard{i m:Nat}{fs:List FactM}{o:Oper}{x:AV}{gi t:Nat}{want b c0:Bool}{g0:List (Nat×Bool)}(hm:ms[i]? =some m)(ho:ops[i]? =some o)(hg:o.guard=some (gi,want))(hi:(ops[gi]?).bind (·.dst)=some t)(hb:lk (stR st hid m fs).t t=some (optV c0 g0 (.bool b)))
  (hc0:ze fs g0=c0)(hcd:zaY fs gi want=(b==want))(hg0:∀e∈(gi,want)::g0,∃f'∈fs,f'.i=e.1)(hs:ze fs ((gi,want)::g0)=true->yy P C o.op o.type (stV st hid m fs ((gi,want)::g0)) x none)(hd:dOk C.n o.dst=true)
  (h:ChM P C ops ms st hid Q (i+1) (⟨i,o.dst,x,none,m,(gi,want)::g0⟩::fs)):ChM P C ops ms st hid Q i fs
 |late{i m:Nat}{fs:List FactM}{o1 oe o2:Oper}(e:Nat)(hm:ms[i]? =some m)(hl:ops.toList.drop i=[o1,o2])(hoe:ops[e]? =some oe)(hg:(fs.all λf=>f.g.isEmpty)=true)(hok:okFM st hid fs=true)(hf:zdh ops i e (bits ops.size m)=true)
  (hA:Ex P C ops [o1,o2] (zhb st hid fs) Q)(hB:Ex P C ops [o1,oe,o2] (zhb st hid (fs.filter λf=>!(f.i==e))) Q):ChM P C ops ms st hid Q i fs
 |tail{i:Nat}{fs:List FactM}(hok:okFM st hid fs=true)(hf:zeT ops i (bits ops.size (ms.getD i 0))=true)(h:Ex P C ops (ops.toList.drop i) (zhb st hid fs) Q):ChM P C ops ms st hid Q i fs
def zwX{ops:Array Oper}{i:Nat}{o:Oper}(h:ops[i]? =some o):i<ops.size:=by
 grind
def zkU{ops:Array Oper}{ms:List Nat}{i m:Nat}(h:zoa ops ms=true)(hi:i<ops.size)(hm:ms[i]? =some m):zeR ops i (bits ops.size m)=true:=by
 have:=jF.1 h i (uR.2 hi);simp_all
def zhy{fs:List FactM}:∀f∈fs,memb f.i (fs.map (·.i))=true:=λf hf=>zt.2 (jW.2 ⟨f,hf,rfl⟩)
def Ex.view{P:Program}{C:Ctx}{ops:Array Oper}{l:List Oper}{st st':St}{Q:Exit->St->Prop}(h:Ex P C ops l st' Q)(hv:∀g a w,Rel C st g a w->Rel C st' g a w):Ex P C ops l st Q:=λg a w hr=>h g a w (hv g a w hr)
def ziw{f:FactM}{fs:List FactM}{i:Nat}(hi:f.i=i)(Z:∀f'∈fs,f'.i<i)(V:∀e∈f.g,∃f'∈fs,f'.i=e.1)(U:WF fs):WF (f::fs):=⟨λf' T=>by simp_all,V,U⟩
def zix{f:FactM}{fs:List FactM}{i:Nat}(hi:f.i=i)(Z:∀f'∈fs,f'.i<i):∀f'∈f::fs,f'.i<i+1:=λf' V=>by
 grind
def zgn{C:Ctx}{st:St}{hid az:List Nat}{n:Nat}{fs:List FactM}{g:Gh}{a:Act}{w:World}(Z:∀f∈fs,memb f.i az=true)(V:WF fs)(h:Rel C (stOf st hid az (toL n fs)) g a w):Rel C (zhb st hid fs) g a w:=by
 unfold stOf at h;rw[zng Z,znh Z]at h;exact h.view rfl (zl9 rfl V λ_ _=>rfl)
def zpL{n e:Nat}:∀{fs:List FactM},(fs.all λf=>f.g.isEmpty)=true->noF e (toL n fs)=toL n (fs.filter λf=>!(f.i==e))
 |[],_=>rfl
 |f::r,h=>by
  simp only[x8,jA,List.isEmpty_iff]at h;have ih:=zpL (n:=n) (e:=e) (fs:=r) h.2;unfold noF at ih⊢;simp only[toL,uM]
  grind[toL,optV]
def zkV{p:FactM->Bool}:∀{fs:List FactM},(fs.all λf=>f.g.isEmpty)=true->WF fs->WF (fs.filter p)
 |[],_,_=>trivial
 |f::r,h,Z=>by
  simp only[x8,jA,List.isEmpty_iff]at h;have ih:=zkV (p:=p) (fs:=r) h.2 Z.2.2
  grind[WF]
def ChM.chain{P:Program}{C:Ctx}{ops:Array Oper}{ms:List Nat}{st:St}{hid:List Nat}{Q:Exit->St->Prop}(ha:zoa ops ms=true){i:Nat}{fs:List FactM}(h:ChM P C ops ms st hid Q i fs):(∀f∈fs,f.i<i)->i<=ops.size->WF fs->Chain P C ops st hid Q i (toL ops.size fs):=by
 induction h with
 |@step i m fs o x nb hm ho H hs E _ ih=>
  intro Z U V;have hn:∀f∈fs,f.i<ops.size:=λf hf=>by grind
  refine .gen rfl ⟨zkU ha (zwX ho) hm,E,λg a w hr K G=>?_⟩ (ih (zix rfl Z) (by grind) (ziw rfl Z (λe he=>by simp at he) V));have hr:Rel C (stR st hid m fs) g a w:=by rw[←zsI hn];exact hr
  simp only[wpOpIn,ho];rw[j6 (by simp[Region.wanted,H])];exact zaz (hs g a w o.dst o.pos o.after o.guard (hr.selV V rfl) K G)
 |@guard i m fs o x gi t want b c0 g0 hm ho H hi hb T xT x4 hs E _ ih=>
  intro Z U V;have hn:∀f∈fs,f.i<ops.size:=λf hf=>by grind
  refine .gen rfl ⟨zkU ha (zwX ho) hm,E,λg a w hr K G=>?_⟩ (ih (zix rfl Z) (by grind) (ziw rfl Z x4 V));have hr:Rel C (stR st hid m fs) g a w:=by rw[←zsI hn];exact hr
  have hy:=zhQ hr hi hb (λe=>by rw[e]at T;exact T.symm);have N:ze fs ((gi,want)::g0)=((b==want)&&c0):=by rw[zbp,xT,T]
  simp only[wpOpIn,ho];cases J:ze fs ((gi,want)::g0)with
  |true=>
   rw[N,jA]at J;rw[j6 (by simp only[Region.wanted,H,hy,J.2,if_true];simpa using J.1)];refine zaz (hs (by rw[N,J.1,J.2];rfl) g a w o.dst o.pos o.after o.guard (hr.selV V (by rw[N,J.1,J.2];rfl)) _ λv w' g' h2 h3 h4 h5=>G v w' g' h2 (.opt _ _ _ (λ_=>h3) λe=>?_) h4 h5);simp_all
  |false=>
   rw[j7 (λx3=>by
    simp_all[Region.wanted])]
   exact⟨λf _=>C.F_fn f,G undef w g (Add.refl _ g w) (.opt _ _ _ (λe=>by grind) λ_=>rfl) ⟨hr.sat.im,hr.sat.ob⟩ (λ_ _ h=>by cases h)⟩
 |@late i m fs o1 oe o2 e hm hl x2 H hok hf hA hB=>
  intro Z U V;have hn:∀f∈fs,f.i<ops.size:=λf hf=>by grind
  refine .late e (bits ops.size m) hl x2 (zsJ hn hok) hf ?_ ?_
  ·rw[zpG];exact hA.view λg a w hr=>zgn zhy V hr
  ·rw[zpL H,zpG];exact hB.view λg a w hr=>zgn zhy (zkV H V) hr
 |tail hok hf hx=>
  intro Z U V;refine .tail _ (zsJ (λf hf=>by grind) hok) hf ?_;rw[zpG];exact hx.view λg a w hr=>zgn zhy V hr
section
variable{P:Program}{C:Ctx}{st:St}{ty:TypeId}{Q:Exit->St->Prop}{ops:Array Oper}{ms:List Nat}{hid:List Nat}{i m:Nat}{fs:List FactM}{o:Oper}{x:AV}{nb:Option (Nat×Blk)}
def yW{id:Nat}{l:List Oper}(hid ms:List Nat)(hm:P.follows .mixedOrders=true)(h:ChM P C l.toArray ms st hid Q 0 [])(he:zfn l.toArray=true:=by kernel_rfl)(Z:zoa l.toArray ms=true:=by kernel_rfl):X P C (.region id l.toArray true) st Q:=
 zy5 hid hm he (h.chain Z (λf hf=>by simp at hf) (wK _) trivial)
def yb{d:Nat}(h:ChM P C ops ms st hid Q (i+1) (⟨i,some d,x,none,m,[]⟩::fs))(hm:ms[i]? =some m:=by exact rfl)(ho:ops[i]? =some o:=by exact rfl)(V:o.guard=none:=by exact rfl)(Z:o.dst=some d:=by exact rfl)(hs:Pur P C o.op o.type (stV st hid m fs []) x:=by exact yK)(U:d.blt C.n=true:=by exact rfl):ChM P C ops ms st hid Q i fs:=
 .step hm ho V hs.stepA (by rw[Z];exact U) (by rw[Z];exact h)
def yO{d:Nat}{f:FuncId}{caps xs:List AV}{r:AV}{fop:Operand}{args:Array Operand}{ts:Array TypeId}(U:Fn P f (xs++caps) r)(h:ChM P C ops ms st hid Q (i+1) (⟨i,some d,r,none,m,[]⟩::fs))(hm:ms[i]? =some m:=by exact rfl)(ho:ops[i]? =some o:=by exact rfl)(T:o.guard=none:=by exact rfl)(Z:o.dst=some d:=by exact rfl)
 (V:o.op=.call {callee:=.value fop,args:=args,argTypes:=ts}:=by exact rfl)(hf:ev (stV st hid m fs []) fop=some (.fn f caps):=by exact rfl)(hx:evs (stV st hid m fs []) args.toList=some xs:=by exact rfl)(hn:AV.nm.nmL (xs++caps)=true:=by exact rfl)(N:d.blt C.n=true:=by exact rfl):ChM P C ops ms st hid Q i fs:=
 .step hm ho T (by rw[V];exact z7 hf hx hn (LeL.refl _) U) (by rw[Z];exact N) (by rw[Z];exact h)
def ChM.gi{d gi t:Nat}{want b c:Bool}{g0:List (Nat×Bool)}{p n:Prop}(h:ChM P C ops ms st hid Q (i+1) (⟨i,some d,x,none,m,(gi,want)::g0⟩::fs))(hm:ms[i]? =some m:=by exact rfl)(ho:ops[i]? =some o:=by exact rfl)(hg:o.guard=some (gi,want):=by exact rfl)(hod:o.dst=some d:=by exact rfl)(hi:(ops[gi]?).bind (·.dst)=some t:=by exact rfl)
 (hch:zcA fs gi=g0:=by first|exact(rfl:_=[])|exact(rfl:_=[_])|exact(rfl:_=[_,_])|exact(rfl:_=[_,_,_]))(hb:lk (stR st hid m fs).t t=some (optV (ze fs g0) g0 (.bool b)):=by exact rfl)(hcd:zaY fs gi want=(b==want):=by exact rfl)(hg0:zc8 fs ((gi,want)::g0)=true:=by exact rfl)
 (hcs:ze fs ((gi,want)::g0)=c:=by first|exact(rfl:_=((_:Bool)==_))|exact(rfl:_=(((_:Bool)==_)&&((_:Bool)==_)))|exact(rfl:_=(((_:Bool)==_)&&(((_:Bool)==_)&&((_:Bool)==_)))))(bp:BP c p n:=by exact inferInstance)(hs:p->Pur P C o.op o.type (stV st hid m fs ((gi,want)::g0)) x:=by intro hgd;exact yK)(hd:d.blt C.n=true:=by exact rfl):ChM P C ops ms st hid Q i fs:=
 .guard hm ho hg hi hb rfl hcd (za2 hg0) (λe=>(hs (bp.t (hcs.symm.trans e))).stepA) (by rw[hod];exact hd) (by rw[hod];exact h)
def ChM.gs{d gi t:Nat}{want b:Bool}{g0:List (Nat×Bool)}(hs:yy P C o.op o.type (stV st hid m fs ((gi,want)::g0)) x none)(h:ChM P C ops ms st hid Q (i+1) (⟨i,some d,x,none,m,(gi,want)::g0⟩::fs))(hm:ms[i]? =some m:=by exact rfl)(ho:ops[i]? =some o:=by exact rfl)(T:o.guard=some (gi,want):=by exact rfl)(Z:o.dst=some d:=by exact rfl)(hi:(ops[gi]?).bind (·.dst)=some t:=by exact rfl)
 (N:zcA fs gi=g0:=by first|exact(rfl:_=[])|exact(rfl:_=[_])|exact(rfl:_=[_,_])|exact(rfl:_=[_,_,_]))(J:lk (stR st hid m fs).t t=some (optV (ze fs g0) g0 (.bool b)):=by exact rfl)(V:zaY fs gi want=(b==want):=by exact rfl)(U:zc8 fs ((gi,want)::g0)=true:=by exact rfl)
 (H:d.blt C.n=true:=by exact rfl):ChM P C ops ms st hid Q i fs:=
 .guard hm ho T hi J rfl V (za2 U) (λ_=>hs) (by rw[Z];exact H) (by rw[Z];exact h)
def ChM.lt(e:Nat){o1 oe o2:Oper}(V:Ex P C ops [o1,o2] (zhb st hid fs) Q)(U:Ex P C ops [o1,oe,o2] (zhb st hid (fs.filter λf=>!(f.i==e))) Q)(hm:ms[i]? =some m:=by exact rfl)(hl:ops.toList.drop i=[o1,o2]:=by exact rfl)(Z:ops[e]? =some oe:=by exact rfl)(T:(fs.all λf=>f.g.isEmpty)=true:=by exact rfl)
 (hok:okFM st hid fs=true:=by exact rfl)(hf:zdh ops i e (bits ops.size m)=true:=by kernel_rfl):ChM P C ops ms st hid Q i fs:=.late e hm hl Z T hok hf V U
def yI(h:Ex P C ops (ops.toList.drop i) (zhb st hid fs) Q)(hok:okFM st hid fs=true:=by exact rfl)(hf:zeT ops i (bits ops.size (ms.getD i 0))=true:=by kernel_rfl):ChM P C ops ms st hid Q i fs:=.tail hok hf h
def z8{d i t:Nat}{want b:Bool}{rest:List Oper}{op:Op}{pos:String}{af:Array Edge}(h:Ex P C ops rest ⟨(d,x)::st.t,st.h⟩ Q)(hi:(ops[i]?).bind (·.dst)=some t:=by exact rfl)(Z:lk st.t t=some (.bool b):=by exact rfl)(V:(b==want)=true:=by first|assumption|rfl|(simp_all;done)|omega)(hs:Pur P C op ty st x:=by exact yK)(U:d.blt C.n=true:=by exact rfl):
 Ex P C ops ({dst:=some d,op:=op,type:=ty,pos:=pos,after:=af,guard:=some (i,want)}::rest) st Q:=zss hi Z V hs.stepA U rfl h
def zbQ{d i t:Nat}{want b:Bool}{rest:List Oper}{op:Op}{pos:String}{af:Array Edge}(h:Ex P C ops rest ⟨(d,.tup [])::st.t,st.h⟩ Q)(hi:(ops[i]?).bind (·.dst)=some t:=by exact rfl)(Z:lk st.t t=some (.bool b):=by exact rfl)(V:(b==want)=false:=by first|assumption|rfl|(simp_all;done)|fail)(U:d.blt C.n=true:=by exact rfl):
 Ex P C ops ({dst:=some d,op:=op,type:=ty,pos:=pos,after:=af,guard:=some (i,want)}::rest) st Q:=zCg hi Z V U h
end
def stF(st:St)(fs:List FactM)(G:List (Nat×Bool)):St:=⟨allV fs G st.t fs,zkT st.h fs⟩
def stFR(st:St)(fs:List FactM):St:=⟨allR st.t fs,zkT st.h fs⟩
def ExF(P:Program)(C:Ctx)(ops:Array Oper)(st:St)(Q:Exit->St->Prop)(i:Nat)(fs:List FactM):Prop:=
 (∀f∈fs,f.i<i)->WF fs->∀g a w,Rel C (stFR st fs) g a w->wpListIn C.F 0 P ops (lift C Q) (ops.toList.drop i) a w
section
variable{P:Program}{C:Ctx}{st:St}{ty:TypeId}{Q:Exit->St->Prop}{ops:Array Oper}{i:Nat}{fs:List FactM}{o:Oper}{x:AV}{nb:Option (Nat×Blk)}
def Rel.stF{C:Ctx}{st:St}{fs:List FactM}{G:List (Nat×Bool)}{g:Gh}{a:Act}{w:World}(Z:WF fs)(V:ze fs G=true)(h:Rel C (stFR st fs) g a w):Rel C (stF st fs G) g a w:=
 h.view rfl (zl9 V Z λ_ _=>rfl)
def zni(st:St)(d:Option Nat)(x:AV)(nb:Option (Nat×Blk)):addSt st d x nb=⟨consT d x st.t,zkI nb st.h⟩:=by
 all_goals rfl
def ExF.at(i:Nat){l:List Oper}(h:ExF P C ops st Q i [])(hl:ops.toList.drop i=l:=by exact rfl):Ex P C ops l st Q:=λg a w hr=>hl▸h (λf hf=>by simp at hf) trivial g a w hr
def zpM{ops:Array Oper}{i:Nat}{o:Oper}(ho:ops[i]? =some o):ops.toList.drop i=o::ops.toList.drop (i+1):=by
 grind[List.drop_eq_getElem_cons]
def ExF.step(ho:ops[i]? =some o)(T:o.guard=none)(hs:yy P C o.op o.type (stF st fs []) x nb)(N:dOk C.n o.dst=true)(hn:nbOk (stFR st fs) nb=true)(h:ExF P C ops st Q (i+1) (⟨i,o.dst,x,nb,0,[]⟩::fs)):ExF P C ops st Q i fs:=λZ V g a w hr=>by
 rw[zpM ho];refine wpListIn_plain T λK J=>zaz<|hs g a w o.dst o.pos o.after o.guard (hr.stF V rfl) K λv w' g' H G U E=>J _ _ ?_
 refine h (zix rfl Z) (ziw rfl Z (λe he=>by simp at he) V) g' _ w' ?_;have:=hr.addSt H N hn G U.1 U.2 E;rw[zni]at this;exact this
def ExF.guard{gi t:Nat}{want b c0:Bool}{g0:List (Nat×Bool)}(ho:ops[i]? =some o)(hg:o.guard=some (gi,want))(hi:(ops[gi]?).bind (·.dst)=some t)(hb:lk (stFR st fs).t t=some (optV c0 g0 (.bool b)))
 (Z:ze fs g0=c0)(J:zaY fs gi want=(b==want))(H:∀e∈(gi,want)::g0,∃f'∈fs,f'.i=e.1)(hs:ze fs ((gi,want)::g0)=true->yy P C o.op o.type (stF st fs ((gi,want)::g0)) x none)(hd:dOk C.n o.dst=true)
 (h:ExF P C ops st Q (i+1) (⟨i,o.dst,x,none,0,(gi,want)::g0⟩::fs)):ExF P C ops st Q i fs:=λT hw g a w hr=>by
 rw[zpM ho];have hy:=zhQ hr hi hb (λe=>by rw[e]at Z;exact Z.symm);have V:ze fs ((gi,want)::g0)=((b==want)&&c0):=by rw[zbp,J,Z]
 have next:∀g' a' w',Rel C (stFR st (⟨i,o.dst,x,none,0,(gi,want)::g0⟩::fs)) g' a' w'->wpListIn C.F 0 P ops (lift C Q) (ops.toList.drop (i+1)) a' w':=h (zix rfl T) (ziw rfl T H hw)
 have put:∀g' v w',Add none g w g' w'->RV g'.I g'.ρ (.opt (ze fs ((gi,want)::g0)) x) v->ImOB g' w'->Rel C (stFR st (⟨i,o.dst,x,none,0,(gi,want)::g0⟩::fs)) g' (a.put o.dst v) w':=λg' v w' G E N=>by
  have:=hr.addSt (nb:=none) G hd rfl E N.1 N.2 (λ_ _ h=>by cases h);rw[zni]at this;exact this
 unfold wpListIn;cases U:ze fs ((gi,want)::g0)with
 |true=>
  rw[V,jA]at U;rw[j6 (by simp only[Region.wanted,hg,hy,U.2,if_true];simpa using U.1)];refine zaz (hs (by rw[V,U.1,U.2];rfl) g a w o.dst o.pos o.after o.guard (hr.stF hw (by rw[V,U.1,U.2];rfl)) _ λv w' g' G E N h5=>next _ _ _ (put g' v w' G (.opt _ _ _ (λ_=>E) λe=>?_) N));simp_all
 |false=>
  rw[j7 (λxT=>by
   simp_all[Region.wanted])]
  exact⟨λf _=>C.F_fn f,next g _ w (put g undef w (Add.refl _ g w) (.opt _ _ _ (λe=>by grind) λ_=>rfl) ⟨hr.sat.im,hr.sat.ob⟩)⟩
def zdM(h:Ex P C ops (ops.toList.drop i) (stF st fs []) Q):ExF P C ops st Q i fs:=λZ V g a w hr=>h g a w (hr.stF V rfl)
def yo{d:Nat}(h:ExF P C ops st Q (i+1) (⟨i,some d,x,none,0,[]⟩::fs))(ho:ops[i]? =some o:=by exact rfl)(V:o.guard=none:=by exact rfl)(Z:o.dst=some d:=by exact rfl)(hs:Pur P C o.op o.type (stF st fs []) x:=by exact yK)(U:d.blt C.n=true:=by exact rfl):ExF P C ops st Q i fs:=
 .step ho V hs.stepA (by rw[Z];exact U) rfl (by rw[Z];exact h)
def ExF.gi{d gi t:Nat}{want b c:Bool}{g0:List (Nat×Bool)}{p n:Prop}(h:ExF P C ops st Q (i+1) (⟨i,some d,x,none,0,(gi,want)::g0⟩::fs))(ho:ops[i]? =some o:=by exact rfl)(hg:o.guard=some (gi,want):=by exact rfl)(hod:o.dst=some d:=by exact rfl)(hi:(ops[gi]?).bind (·.dst)=some t:=by exact rfl)
 (hch:zcA fs gi=g0:=by first|exact(rfl:_=[])|exact(rfl:_=[_])|exact(rfl:_=[_,_])|exact(rfl:_=[_,_,_]))(hb:lk (stFR st fs).t t=some (optV (ze fs g0) g0 (.bool b)):=by exact rfl)(hcd:zaY fs gi want=(b==want):=by exact rfl)(hg0:zc8 fs ((gi,want)::g0)=true:=by exact rfl)
 (hcs:ze fs ((gi,want)::g0)=c:=by first|exact(rfl:_=((_:Bool)==_))|exact(rfl:_=(((_:Bool)==_)&&((_:Bool)==_)))|exact(rfl:_=(((_:Bool)==_)&&(((_:Bool)==_)&&((_:Bool)==_)))))(bp:BP c p n:=by exact inferInstance)(hs:p->Pur P C o.op o.type (stF st fs ((gi,want)::g0)) x:=by intro hgd;exact yK)(hd:d.blt C.n=true:=by exact rfl):ExF P C ops st Q i fs:=
 .guard ho hg hi hb rfl hcd (za2 hg0) (λe=>(hs (bp.t (hcs.symm.trans e))).stepA) (by rw[hod];exact hd) (by rw[hod];exact h)
def ExF.cg{d gi t:Nat}{want b:Bool}{g0:List (Nat×Bool)}{f:FuncId}{caps xs:List AV}{fop:Operand}{args:Array Operand}{ts:Array TypeId}(N:Fn P f (xs++caps) x)(h:ExF P C ops st Q (i+1) (⟨i,some d,x,none,0,(gi,want)::g0⟩::fs))(ho:ops[i]? =some o:=by exact rfl)(J:o.guard=some (gi,want):=by exact rfl)(Z:o.dst=some d:=by exact rfl)(hi:(ops[gi]?).bind (·.dst)=some t:=by exact rfl)
 (H:zcA fs gi=g0:=by first|exact(rfl:_=[])|exact(rfl:_=[_])|exact(rfl:_=[_,_])|exact(rfl:_=[_,_,_]))(G:lk (stFR st fs).t t=some (optV (ze fs g0) g0 (.bool b)):=by exact rfl)(V:zaY fs gi want=(b==want):=by exact rfl)(U:zc8 fs ((gi,want)::g0)=true:=by exact rfl)
 (T:o.op=.call {callee:=.value fop,args:=args,argTypes:=ts}:=by exact rfl)(hf:ev (stF st fs ((gi,want)::g0)) fop=some (.fn f caps):=by exact rfl)(hx:evs (stF st fs ((gi,want)::g0)) args.toList=some xs:=by exact rfl)(hn:AV.nm.nmL (xs++caps)=true:=by exact rfl)(E:d.blt C.n=true:=by exact rfl):ExF P C ops st Q i fs:=
 .guard ho J hi G rfl V (za2 U) (λe=>by rw[T];exact z7 hf hx hn (LeL.refl _) N) (by rw[Z];exact E) (by rw[Z];exact h)
def ExF.cp{d gi t:Nat}{want b c:Bool}{g0:List (Nat×Bool)}{p n:Prop}{f:FuncId}{caps xs:List AV}{fop:Operand}{args:Array Operand}{ts:Array TypeId}(hc:p->Fn P f (xs++caps) x)(h:ExF P C ops st Q (i+1) (⟨i,some d,x,none,0,(gi,want)::g0⟩::fs))(ho:ops[i]? =some o:=by exact rfl)(hg:o.guard=some (gi,want):=by exact rfl)(hod:o.dst=some d:=by exact rfl)(hi:(ops[gi]?).bind (·.dst)=some t:=by exact rfl)
 (hch:zcA fs gi=g0:=by first|exact(rfl:_=[])|exact(rfl:_=[_])|exact(rfl:_=[_,_])|exact(rfl:_=[_,_,_]))(hb:lk (stFR st fs).t t=some (optV (ze fs g0) g0 (.bool b)):=by exact rfl)(hcd:zaY fs gi want=(b==want):=by exact rfl)(hg0:zc8 fs ((gi,want)::g0)=true:=by exact rfl)
 (hcs:ze fs ((gi,want)::g0)=c:=by first|exact(rfl:_=((_:Bool)==_))|exact(rfl:_=(((_:Bool)==_)&&((_:Bool)==_)))|exact(rfl:_=(((_:Bool)==_)&&(((_:Bool)==_)&&((_:Bool)==_)))))(bp:BP c p n:=by exact inferInstance)(hop:o.op=.call {callee:=.value fop,args:=args,argTypes:=ts}:=by exact rfl)(hf:ev (stF st fs ((gi,want)::g0)) fop=some (.fn f caps):=by exact rfl)(hx:evs (stF st fs ((gi,want)::g0)) args.toList=some xs:=by exact rfl)(hn:AV.nm.nmL (xs++caps)=true:=by exact rfl)(hd:d.blt C.n=true:=by exact rfl):ExF P C ops st Q i fs:=
 .guard ho hg hi hb rfl hcd (za2 hg0) (λe=>by rw[hop];exact z7 hf hx hn (LeL.refl _) (hc (bp.t (hcs.symm.trans e)))) (by rw[hod];exact hd) (by rw[hod];exact h)
def ChM.cg{ms:List Nat}{hid:List Nat}{m:Nat}{d gi t:Nat}{want b:Bool}{g0:List (Nat×Bool)}{f:FuncId}{caps xs:List AV}{fop:Operand}{args:Array Operand}{ts:Array TypeId}(N:Fn P f (xs++caps) x)(h:ChM P C ops ms st hid Q (i+1) (⟨i,some d,x,none,m,(gi,want)::g0⟩::fs))(hm:ms[i]? =some m:=by exact rfl)(ho:ops[i]? =some o:=by exact rfl)(J:o.guard=some (gi,want):=by exact rfl)(Z:o.dst=some d:=by exact rfl)(hi:(ops[gi]?).bind (·.dst)=some t:=by exact rfl)
 (H:zcA fs gi=g0:=by first|exact(rfl:_=[])|exact(rfl:_=[_])|exact(rfl:_=[_,_])|exact(rfl:_=[_,_,_]))(G:lk (stR st hid m fs).t t=some (optV (ze fs g0) g0 (.bool b)):=by exact rfl)(V:zaY fs gi want=(b==want):=by exact rfl)(U:zc8 fs ((gi,want)::g0)=true:=by exact rfl)
 (T:o.op=.call {callee:=.value fop,args:=args,argTypes:=ts}:=by exact rfl)(hf:ev (stV st hid m fs ((gi,want)::g0)) fop=some (.fn f caps):=by exact rfl)(hx:evs (stV st hid m fs ((gi,want)::g0)) args.toList=some xs:=by exact rfl)(hn:AV.nm.nmL (xs++caps)=true:=by exact rfl)(E:d.blt C.n=true:=by exact rfl):ChM P C ops ms st hid Q i fs:=
 .guard hm ho J hi G rfl V (za2 U) (λe=>by rw[T];exact z7 hf hx hn (LeL.refl _) N) (by rw[Z];exact E) (by rw[Z];exact h)
end
def yu{ι:Type}{C:Ctx}{st:St}{I:ι->List (Nat×AV)}{H:ι->List (Nat×Blk)}{J:ι->Prop}{μ:ι->Nat}{n:Nat}(i':ι)(hJ:J i':=by first|trivial|omega|(refine⟨?_,?_⟩<;>omega))(hm:μ i'<n:=by first|omega|(dsimp only;omega))(hI:Imp C st ⟨I i',H i'⟩:=by exact yd):
 ∃i',Imp C st ⟨I i',H i'⟩/\J i'/\μ i'<n:=⟨i',hI,hJ,hm⟩
end Go.Rse
namespace Go.Rse
open Go Go.RowKit
def zkW(P:Program)(C:Ctx)(rv:List ResultVar)(r:AV)(vs:List Value)(cs:List AV)(hs':List (Nat×Blk))(e:Exit)(st:St):Prop:=
 (e=.normal\/e=.ret)/\∃ts ex,Imp C st ⟨ts,(kN,.hold vs cs)::(hs'++ex)⟩/\RetVs P ⟨ts,(kN,.hold vs cs)::(hs'++ex)⟩ rv r
def zkW.mk{P:Program}{C:Ctx}{rv:List ResultVar}{r:AV}{vs:List Value}{cs:List AV}{Z:List (Nat×Blk)}{e:Exit}{st:St}(ts:List (Nat×AV))(ex:List (Nat×Blk))(he:e=.normal\/e=.ret)(hr:RetVs P ⟨ts,(kN,.hold vs cs)::(Z++ex)⟩ rv r)(hi:Imp C st ⟨ts,(kN,.hold vs cs)::(Z++ex)⟩:=by exact yd):zkW P C rv r vs cs Z e st:=
 ⟨he,ts,ex,hi,hr⟩
def FnO.introX{P:Program}{f:FuncId}{fn:Func}{c:Code}{n:Nat}{az:List AV}{ts:List (Nat×AV)}{rv:List ResultVar}{r:AV}{hs U:List (Nat×Blk)}{kp:List Nat}{cs:List AV}(hc:zan P f=true)(hf:P.funcs[f]? =some fn)(hb:fn.body=some c)(hn:fn.ntmps=n)(x1:fn.results=rv.toArray)
 (x0:zbx 0 az=ts)(v4:az.length<=n)(v2:(hs.all λp=>!(p.1.beq kN))=true)(v3:(U.all λp=>!(p.1.beq kN))=true)(w9:kp.mapM (hdr hs)=some cs)(H:kp.mapM (hdr U)=some cs)
 (h:∀g w d vs,X P (C0 n d g w) c ⟨ts,(kN,.hold vs cs)::hs⟩ (zkW P (C0 n d g w) rv r vs cs U)):FnO P f az hs kp r U:=by
 refine⟨hc,λd ρ I O w args V T=>(callsIn_wide (n:=0)).1 (callsIn_of_wp_marks hf hb trivial ?_)⟩;subst x0;have v1:args.length=az.length:=T.1;let C:=C0 n d ⟨ρ,I,O⟩ w
 have G:Rel C ⟨zbx 0 az,(kN,.hold (kp.map ρ) cs)::hs⟩ ⟨ρ,I,O⟩ {tmps:=args.toArray++Array.replicate (fn.ntmps-args.toArray.size) undef,defers:=[]} w:=by
  refine⟨by simp[hn,C];omega,Dfs.nil _ _ _,λt x hx=>?_,⟨V.im,V.ob,λk B J=>?_⟩,⟨Im.le_refl _,rfl,rfl,rfl,jE _,jE _,λ_ _ _ _=>⟨rfl,rfl⟩,λb y n _ hy=>⟨n,hy⟩⟩⟩
  ·obtain⟨_,E⟩:=zc2 (I:=I) (ρ:=ρ) az 0 t x hx;simp only[x6]at E;have ht:t<args.length:=by grind
   have e:(args.toArray++Array.replicate (fn.ntmps-args.toArray.size) undef).getD t undef=args[t]:=by
    simp[jM,uU,ht]
   rw[e];exact T.2 t x _ E (jB ht)
  ·simp only[yq]at J;cases w2:kN.beq k<;>simp[w2]at J
   ·exact(V.blk k B J).ctx
   ·subst J;exact zg9 (g:=⟨ρ,I,O⟩) V w9
 refine wpIn_mono (h _ w d _ _ _ w G) ?_
 rintro e a w'⟨st,g1,v9,he,ts',ex',xT,x4⟩
 obtain⟨g2,N⟩:=xT g1 a w' v9
 have x3:LeavesInM Fence.wide 0 P fn a.tmps (λe w'=>∃v ρ' I' O',e=.returned v/\Sat (C0 0 d ⟨ρ,I,O⟩ w) U ⟨ρ',I',O'⟩ w'/\RV I' ρ' r v/\Ext (C0 0 d ⟨ρ,I,O⟩ w) ⟨ρ',I',O'⟩ w'/\∀n∈kp,ρ' n=ρ n) a.defers .returning w':=by
  obtain⟨D,hD,v8,v5⟩:=N.defers;refine zaW (C:=C) x1 x4 rfl (λg3 w3 v Z hv=>?_) D hD.plain v8 v5 ⟨N.size,Dfs.nil _ _ _,N.tmps,N.sat,N.ext⟩
  have x2:Sat (C0 0 d ⟨ρ,I,O⟩ w) U g3 w3:=⟨Z.sat.im,Z.sat.ob,λk B J=>by
   refine(Z.sat.blk k B ?_).ctx
   have:kN.beq k=false:=by
    cases hb:kN.beq k
    ·rfl
    ·have:kN=k:=by simpa using hb
     grind[zeV]
   simp[yq,this,zcF,J]⟩
  have hh:=Z.sat.blk kN (.hold (kp.map ρ) cs) (by simp[yq]);exact⟨v,g3.ρ,g3.I,g3.O,rfl,x2,hv,⟨Z.ext.I,Z.ext.os,Z.ext.tape,Z.ext.output,Z.ext.drawn,Z.ext.size,Z.ext.keep,Z.ext.own⟩,zeU (ρ:=ρ) x2 H hh⟩
 rcases he with rfl|rfl<;>exact x3
section
variable{P:Program}{C:Ctx}{st:St}{ty:TypeId}{Q:Exit->St->Prop}
def zZ{ops:Array Oper}{rest:List Oper}{dst:Option Tmp}{pos:String}{af:Array Edge}{fop:Operand}{args:Array Operand}{ts:Array TypeId}{f:FuncId}{caps xs as':List AV}{hs Z:List (Nat×Blk)}{kp:List Nat}{r:AV}
 (μ:List (Nat×Nat))(h:FnO P f as' hs kp r Z)(E:Ex P C ops rest (zbP st μ hs Z dst r) Q)(hf:ev st fop=some (.fn f caps):=by exact rfl)(hx:evs st args.toList=some xs:=by exact rfl)(hμ:biOk μ=true:=by exact rfl)(T:LeL (xs++caps) (as'.map (AV.ren μ)):=by exact LeL.refl _)(N:as'.all (AV.okN (keys hs))=true:=by exact rfl)(J:r.okN (keys Z)=true:=by exact rfl)
 (H:zaN st μ (keys hs) hs:=by repeat'(first|exact True.intro|refine And.intro ⟨_,_,rfl,rfl,LeB.refl _,rfl⟩ ?_))(V:(Z.all λp=>(fwd μ p.1).isSome&&p.2.okNB (keys Z))=true:=by exact rfl)
 (U:(μ.all λp=>kp.any (·.beq p.1)||(hs.any (·.1.beq p.1)&&!(Z.any (·.1.beq p.1)))||(!(hs.any (·.1.beq p.1))&&st.fr p.2))=true:=by exact rfl)
 (G:(kp.all λn=>hs.any (·.1.beq n))=true:=by exact rfl)(hd:dOk C.n dst=true:=by exact rfl):
 Ex P C ops ({dst:=dst,op:=.call {callee:=.value fop,args:=args,argTypes:=ts},type:=ty,pos:=pos,after:=af,guard:=none}::rest) st Q:=zby μ h hf hx hμ T N J H V U G hd E
end
end Go.Rse
namespace Go.Rse
open Go Go.RowKit
def andI(p q:Int):Int:=IntKind.i64.wrap ((BitVec.ofInt 64 p&&&BitVec.ofInt 64 q).toNat:Int)
section
variable{P:Program}{C:Ctx}{st:St}{ty:TypeId}{x y:Operand}{xt yt:TypeId}{k k':IntKind}{p q:Int}
end
end Go.Rse
namespace Go.Rse
open Go Go.RowKit
section plain
variable{α:Type}
def mix(q:Int):List (Int×α)->Nat->Option (Nat×α)
 |[],_=>none
 |p::r,i=>if p.1=q then some (i,p.2)else mix q r (i+1)
def mget(q:Int)(l:List (Int×α)):Option α:=(mix q l 0).map (·.2)
def mput(q:Int)(x:α)(l:List (Int×α)):List (Int×α):=match mix q l 0 with
 |some (i,_)=>l.set i (q,x)
 |none=>l++[(q,x)]
def zhc{q:Int}{d:IntKind}:∀(l:List (Int×α))(es:List MapEntry)(i:Nat),es.length=l.length->(∀(j:Nat)e p,es[j]? =some e->l[j]? =some p->e.key=.int .i64 p.1)→
 (mix q l i=none/\Instr.findNow (.int d) (.int .i64 q) es i=some none)\/∃j e x,mix q l i=some (i+j,x)/\Instr.findNow (.int d) (.int .i64 q) es i=some (some (i+j,e.val))/\es[j]? =some e/\l[j]? =some (q,x)
 |[],[],i,_,_=>.inl ⟨rfl,rfl⟩
 |[],_::_,i,h,_=>by simp at h
 |_::_,[],i,h,_=>by simp at h
 |p::l,e::es,i,hl,hk=>by
  have Z:e.key=.int .i64 p.1:=hk 0 e p rfl rfl;by_cases V:p.1=q
  ·refine .inr ⟨0,e,p.2,by simp[mix,V],by simp[Instr.findNow,Instr.sameNow,Z,V],rfl,?_⟩;rw[←V];rfl
  ·have T:¬q=p.1:=λx=>V x.symm
   have hs:Instr.sameNow (.int d) (.int .i64 q) e.key=some false:=by rw[Z];simp[Instr.sameNow,T]
   rcases zhc (q:=q) (d:=d) l es (i+1) (by simpa using hl) (λj e' p' h1 U=>hk (j+1) e' p' h1 U)with⟨h1,U⟩|⟨j,e',x,h1,U,N,J⟩
   ·simp_all[mix,Instr.findNow]
   ·refine .inr ⟨j+1,e',x,by simp[mix,V,h1];omega,?_,N,J⟩;simp[Instr.findNow,hs,U];omega
end plain
section
variable{P:Program}{C:Ctx}{st:St}{ty:TypeId}{Q:Exit->St->Prop}
def zgo{I:Im}{ρ:Nat->Value}{k:Nat}{v:Value}(h:RV I ρ (.mp k) v):∃b,v=.map (some b)/\ρ k=.map (some b):=by cases h<;>simp_all
def zhz{κ α:Type}(kenc:κ->AV)(venc:α->AV){t:TypeId}{k:Nat}:yy P C (.makeMap t none) ty st (.mp k) (some (k,.mpb kenc venc [])):=
 zai λg a w dst pos af gd hr=>by
  refine⟨.map (some w.heap.size),w.alloc (.map #[] 0),g.nw C.d w.heap.size k (.map (some w.heap.size)),?_,Add.nw (Grow.alloc _ (.map #[] 0)) C.d k _,.mp k _ (by simp[Gh.nw]),ImOB.nw ⟨hr.sat.im,hr.sat.ob⟩ (Grow.alloc _ _) (by simp) C.d k _,λk' B Z=>?_⟩
  ·rfl
  ·injection Z with Z;injection Z with e1 e2;subst e1;subst e2;exact⟨w.heap.size, #[],0,by simp[Gh.nw],by simp[Gh.nw],.inl hr.ext.size,heap_alloc_new w _,⟨rfl,rfl,λi e he=>by simp at he⟩,λi e p he V=>by simp at he⟩
def mpOk(P:Program)(t K E:TypeId):Prop:=P.underlying t=some (.map K E)/\∃d,P.underlying K=some (.int d)
def zsK{α:Type}{venc:α->AV}{l:List (Int×α)}{t K E:TypeId}{x y:Operand}{k:Nat}{q:Int}(z0:α)(hx:ev st x=some (.mp k))(hk:lk st.h k=some (.mpb (λi:Int=>.int .i64 i) venc l))(G:ev st y=some (.int .i64 q))
 (ht:mpOk P t K E)(hd:∃d,P.underlying K=some (.int d)/\d=.i64)(hf:∀v k,(venc v).fr k=true)(hz:∃z i,P.info? E=some i/\i.zero=some z/\∀I,RV I noNames (venc z0) z):
 Pur P C (.lookup t x y true) ty st (.tup [venc ((mget q l).getD z0),.bool (mget q l).isSome]):=λg a w dst pos af gd hr=>by
 obtain⟨b,es,ck,h1,h2,h3,J,h5,H⟩:=hr.sat.blk k _ hk
 have ex:a.eval x=.map (some b):=by
  obtain⟨b',e1,e2⟩:=zgo (yA hr hx);rw[e1,←e2,h1]
 have ey:=y5 (yA hr G);obtain⟨d,V,rfl⟩:=hd;obtain⟨z,i,hi,T,N⟩:=hz;have U:∀(j:Nat)e p,es.toList[j]? =some e->l[j]? =some p->e.key=.int .i64 p.1:=λj e p he hp=>y5 (H j e p (by simpa using he) hp).1
 rcases zhc (q:=q) (d:=.i64) l es.toList 0 (by simpa using h5.1) U with⟨m1,m2⟩|⟨j,e,v,m1,m2,m3,m4⟩
 ·refine⟨.tuple #[z,.bool false],?_,?_⟩
  ·simp[execOp,ex,ey,Instr.lookup,run_underlying ht.1,MapKept.run_getObj_map J,MapKept.run_checkKey V (show MapKept.IsKey (.int .i64) (.int .i64 q)from rfl),MapKept.run_findKey V m2,Result.andThen,zeroValue,typeInfo,hi,T]
  ·have e1:(mget q l).getD z0=z0:=by simp[mget,m1]
   have e2:(mget q l).isSome=false:=by simp[mget,m1]
   rw[e1,e2];refine .tup _ [z,.bool false] rfl λj c v Z hv=>?_
   rcases j with _|_|j
   ·simp at Z hv;subst Z;subst hv;exact(N g.I).forget' (hf _)
   ·simp at Z hv;subst Z;subst hv;exact .bool _
   ·simp at Z
 ·simp only[vU]at m1 m2;refine⟨.tuple #[e.val,.bool true],?_,?_⟩
  ·simp[execOp,ex,ey,Instr.lookup,run_underlying ht.1,MapKept.run_getObj_map J,MapKept.run_checkKey V (show MapKept.IsKey (.int .i64) (.int .i64 q)from rfl),MapKept.run_findKey V m2,Result.andThen]
  ·have e1:(mget q l).getD z0=v:=by simp[mget,m1]
   have e2:(mget q l).isSome=true:=by simp[mget,m1]
   rw[e1,e2];refine .tup _ [e.val,.bool true] rfl λj' c u Z hv=>?_
   rcases j' with _|_|j'
   ·simp at Z hv;subst Z;subst hv;exact(H j e (q,v) (by simpa using m3) m4).2.forget' (hf _)
   ·simp at Z hv;subst Z;subst hv;exact .bool _
   ·simp at Z
def zbR{w:World}{b:Nat}{o o':Obj}(h:w.heap[b]? =some o):w.grownBy {w with heap:=w.heap.setIfInBounds b o'} (some b):=
 ⟨rfl,rfl,rfl,by simp,λk hk Z=>(MapKept.heap_set h).2 k (λe=>Z (by rw[e]))⟩
def ze1{α:Type}{venc:α->AV}{l:List (Int×α)}{t K E:TypeId}{x y z:Operand}{k:Nat}{q:Int}{u:AV}(v:α)(hx:ev st x=some (.mp k))(hk:lk st.h k=some (.mpb (λi:Int=>.int .i64 i) venc l))(hy:ev st y=some (.int .i64 q))
 (hz:ev st z=some u)(hu:u=venc v)(ht:mpOk P t K E)(hd:∃d,P.underlying K=some (.int d)/\d=.i64)(hf:∀v k,(venc v).fr k=true):
 yz P C (.mapUpdate t x y z) ty none st (putH st k (.mpb (λi:Int=>.int .i64 i) venc (mput q v l))):=λg a w pos af gd hr K' hK=>by
 obtain⟨b,es,ck,h1,J,H,U,G,h6⟩:=hr.sat.blk k _ hk
 have ex:a.eval x=.map (some b):=by
  obtain⟨b',e1,e2⟩:=zgo (yA hr hx);rw[e1,←e2,h1]
 have ey:=y5 (yA hr hy);have ez:RV g.I noNames (venc v) (a.eval z):=(hu▸yA hr hz).forget' (hf v);obtain⟨d,V,rfl⟩:=hd;have Z:∀(j:Nat)e p,es.toList[j]? =some e->l[j]? =some p->e.key=.int .i64 p.1:=λj e p he T=>y5 (h6 j e p (by simpa using he) T).1
 have N:MapKept.IsKey (.int .i64) (.int .i64 q):=rfl;rcases zhc (q:=q) (d:=.i64) l es.toList 0 (by simpa using G.1) Z with⟨m1,m2⟩|⟨j,e,v0,m1,m2,m3,m4⟩
 ·have er:(Instr.mapUpdate t (.map (some b)) (.int .i64 q) (a.eval z)).run P w=.ok () {w with heap:=w.heap.setIfInBounds b (.map (es.push {key:=.int .i64 q,val:=a.eval z,born:=ck}) (ck+1))}:=by
   simp[Instr.mapUpdate,run_underlying ht.1,MapKept.run_getObj_map U,MapKept.run_checkKey V N,MapKept.run_findKey V m2,MapKept.run_setObj_map _ U,Result.andThen]
  simp only[wp1,execOp,ex,ey,jP,er,jI,jU,zbL];refine hK _ _ _ (hr.modify J H (zbR U) (jE _) ⟨b,_,_,h1,J,H,(MapKept.heap_set U).1,⟨?_,?_,?_⟩,?_⟩)
  ·simp[mput,m1,G.1]
  ·simp[mput,m1,G.2.1]
  ·grind
  ·intro i e p he T;simp only[mput,m1]at T;rw[Array.getElem?_push]at he;rw[wM]at T;by_cases hi:i<es.size
   ·grind
   ·split at he
    ·next hie=>
     injection he with he;subst he;rw[j7 (by omega)]at T;have:i-l.length=0:=by omega
     rw[this]at T;simp at T;subst T;exact⟨.int _ _,ez⟩
    simp_all
 ·simp only[vU]at m1 m2;have xT:e.key=.int .i64 q:=Z j e _ m3 m4;have hj:es[j]? =some e:=by simpa using m3
  have er:(Instr.mapUpdate t (.map (some b)) (.int .i64 q) (a.eval z)).run P w=.ok () {w with heap:=w.heap.setIfInBounds b (.map (es.modify j λe=>{e with key:=.int .i64 q,val:=a.eval z}) ck)}:=by
   simp[Instr.mapUpdate,run_underlying ht.1,MapKept.run_getObj_map U,MapKept.run_checkKey V N,MapKept.run_findKey V m2,hj,xT,MapKept.run_keyThatStays N,MapKept.run_setObj_map _ U,Result.andThen]
  simp only[wp1,execOp,ex,ey,jP,er,jI,jU,zbL];refine hK _ _ _ (hr.modify J H (zbR U) (jE _) ⟨b,_,_,h1,J,H,(MapKept.heap_set U).1,⟨?_,?_,?_⟩,?_⟩);all_goals grind[mput]
end
end Go.Rse
namespace Go.Rse
open Go Go.RowKit
section
variable{P:Program}{C:Ctx}{st:St}{Q:Exit->St->Prop}{ty:TypeId}
def yg{ts:List (Nat×AV)}{hs:List (Nat×Blk)}(h1:impT st ts:=by
 repeat'(first|exact True.intro|(refine And.intro ⟨_,rfl,?_⟩ ?_;(first|exact LeV.refl _|exact LeV.any _|exact LeB.refl _|(refine LeV.eq ?_;simp;done)|(refine LeV.eq ?_;congr 1;omega)|(refine LeV.eq ?_;dsimp only;congr 1;omega)|(refine LeV.eq (j9 (AV.int _) ?_);omega)|exact LeV.nils _|(refine LeV.eq ?_;congr 1<;>assumption)|(refine LeV.eq ?_;assumption)))))(Z:impH st hs:=by
 repeat'(first|exact True.intro|(refine And.intro ⟨_,rfl,?_⟩ ?_;(first|exact LeB.refl _|exact LeB.row (by assumption)|(refine LeB.eq ?_;congr 1<;>assumption)|(refine LeB.eq ?_;congr 1;omega)|(refine LeB.eq ?_;congr 1;simp only[cond_true,cond_false];omega))))):Imp C st ⟨ts,hs⟩:=Imp.of h1 Z
def zbS{ops:Array Oper}{ms:List Nat}{hid:List Nat}{i m:Nat}{fs:List FactM}(e:Nat)(stJ:St){o1 oe o2:Oper}(U:∀Q',Ex P C ops [] stJ Q'->Ex P C ops [o1,o2] (zhb st hid fs) Q')(T:∀Q',Ex P C ops [] stJ Q'->Ex P C ops [o1,oe,o2] (zhb st hid (fs.filter λf=>!(f.i==e))) Q')(V:Ex P C ops [] stJ Q)
 (hm:ms[i]? =some m:=by exact rfl)(hl:ops.toList.drop i=[o1,o2]:=by exact rfl)(Z:ops[e]? =some oe:=by exact rfl)(N:(fs.all λf=>f.g.isEmpty)=true:=by exact rfl)
 (hok:okFM st hid fs=true:=by exact rfl)(hf:zdh ops i e (bits ops.size m)=true:=by kernel_rfl):ChM P C ops ms st hid Q i fs:=.late e hm hl Z N hok hf (U Q V) (T Q V)
def zF{x y:Code}(stJ:St)(h:X P C y stJ Q->X P C x st (zdK (λst'=>X P C y st' Q) Q))(hJ:X P C y stJ Q):X P C (.seq x y) st Q:=yh (h hJ)
theorem zqo(A X B cs:List AV)(j:Nat)(h:j+cs.length<=X.length):setAt (A++(X++B)) (A.length+j) cs=A++(setAt X j cs++B):=by
 unfold setAt
 have t1:(A++(X++B)).take (A.length+j)=A++X.take j:=by
  rw[List.take_length_add_append,wX (by omega)]
 have t2:(A++(X++B)).drop (A.length+j+cs.length)=X.drop (j+cs.length)++B:=by
  rw[vD,List.drop_length_add_append,vT h]
 simp_all
def zsL{α:Type}{enc:α->List AV}{s:Nat}(he:∀x,(enc x).length=s){l:List α}{i j:Nat}{x x':α}{cs:List AV}(hx:l[i]? =some x)(V:j+cs.length<=s)(U:enc x'=setAt (enc x) j cs):
 (l.set i x').flatMap enc=setAt (l.flatMap enc) (i*s+j) cs:=by
 obtain⟨hi,ex⟩:=j5.1 hx
 have hl:l.set i x'=l.take i++([x']++l.drop (i+1)):=by
  rw[List.set_eq_take_append_cons_drop,j6 hi];simp
 have Z:l=l.take i++([x]++l.drop (i+1)):=by
  conv=>lhs;rw[←wB i l,jL hi,ex]
  rfl
 grind[zJ,zqo]
def Rel.row_writeC{g:Gh}{a:Act}{w:World}(hr:Rel C st g a w){α:Type}{enc:α->List AV}{l l':List α}{E:TypeId}{k s p b:Nat}{cs:List AV}{vs:List Value}(hk:lk st.h k=some (.row enc l E s))(he:∀x,(enc x).length=s)(G:0<s)
 (U:RVL g.I noNames cs vs)(T:∀u∈vs,u.oneCell'=true)(xT:p+cs.length<=l.length*s)(hb:y9 (g.ρ k)=some b)(V:l'.length=l.length)(x4:l'.flatMap enc=setAt (l.flatMap enc) p cs):
 ∃w',(storeCells ⟨b,p,none⟩ vs 0).run P w=.ok () w'/\Rel C (putH st k (.row enc l' E s)) g a w':=by
 obtain⟨xs,hw,h1,h2,h3⟩:=hr.sat.blk k _ hk;rcases hw.2 with⟨hv,_⟩|⟨b',cap,cur,hv,x3,hh,N,x2,J,x1⟩
 ·simp_all[y9]
 ·have:b'=b:=by rw[hv]at hb;simpa[y9]using hb
  subst this;have v9:vs.length=cs.length:=U.1;have v8:l.length*s<=cap*s:=jX s N;have x0:p+cs.length<=l.length*s:=xT;have w9:=run_storeCells_at (P:=P) b' p E vs 0 cur w hh (by omega) T;refine⟨_,w9,hr.modify (h3 b' (by rw[hv];rfl)).1 (h3 b' (by rw[hv];rfl)).2 zc0 (jE _) ?_⟩;have w2:cur.toList.length=cap*s:=by simpa using J
  have H:=zeW h1 hw.1 h2 G;have Z:=H.setAt U p (by rw[zJ l h1];exact x0);rw[←x4]at Z
  have hx:List.take (l.length*s) (cur.toList.take (p+0)++vs++cur.toList.drop (p+0+vs.length))=xs.take p++vs++xs.drop (p+vs.length):=by
   rw[←x1];apply uI;intro j;simp only[vN,wI,wM,jC,jO,w2,wV];rw[show min p (cap*s)=p by omega,show min (l.length*s) (cap*s)=l.length*s by omega,show min p (l.length*s)=p by omega];by_cases q0:j<l.length*s
   ·rw[j6 q0];by_cases q1:j<p
    ·simp[q1,show j<p+vs.length by omega,q0]
    ·by_cases q2:j<p+vs.length
     ·simp[q1,q2]
     ·simp[q2,show p+vs.length+(j-(p+vs.length))<l.length*s by omega]
   ·rw[j7 q0];rw[j7 (by omega)];rw[j7 (by omega)]
  refine⟨xs.take p++vs++xs.drop (p+vs.length),⟨?_,.inr ⟨b',cap,(cur.toList.take (p+0)++vs++cur.toList.drop (p+0+vs.length)).toArray,by rw[hv,V],x3,setRow_heap w b' cur _ E _ hh,by rw[V];exact N,x2,by simp;omega,by rw[V];simpa using hx⟩⟩,λi x h=>he x,zbw (λi x h=>he x) Z,h3⟩
  grind
def y6{α:Type}{enc:α->List AV}{l:List α}{E T:TypeId}{x y:Operand}{k s i j:Nat}{u:AV}{ag:Bool}{n:Nat}(x0 x':α)(hx:ev st x=some (.ptr k s i j))(hk:lk st.h k=some (.row enc l E s))(h0:l[i]? =some x0)(he:∀x,(enc x).length=s)(N:0<s)
 (hy:ev st y=some u)(hu:enc x'=setAt (enc x0) j u.cl)(hn:u.cl.length=n)(hj:j+n<=s)(hp:zjs u=true)(J:scL u.cl=true)(hnm:AV.nm.nmL u.cl=true)(ht:tyOk P T ag n=true):yz P C (.store T x y) ty none st (putH st k (.row enc (l.set i x') E s)):=λg a w pos af gd hr K hK=>by
 obtain⟨b,hb,e⟩:=zah (yA hr hx);have Z:=zjt (yA hr hy) hp;have H:RVL g.I noNames u.cl (a.eval y).cells.toList:=Z.forget hnm
 have V:∀v∈(a.eval y).cells.toList,v.oneCell'=true:=λv hv=>by
  obtain⟨q,hq⟩:=jQ.1 hv;have U:q<u.cl.length:=by rw[←Z.1];grind
  exact(zbN (Z.2 q _ v (jB U) hq) (zfk J (jB U))).2
 have hi:i<l.length:=(j5.1 h0).1;have xT:i*s+s<=l.length*s:=by rw[←xO];exact jX s hi
 obtain⟨w',h1,h2⟩:=hr.row_writeC (P:=P) (p:=i*s+j) (l':=l.set i x') hk he N H V (by omega) hb (List.length_set ..) (zsL he h0 (by omega) hu);simp only[wp1,execOp,Instr.storeAt,e,Instr.sureAddr,jP,jU,jI,storeVar,yZ ht];have G:(a.eval y).cells.size=n:=by have:=Z.1;simp_all
 rw[j7 (by simp[G])];simp only[h1,jI,zbL];exact hK _ _ _ h2
def zsM{T:TypeId}(h:(P.info? T).bind (·.zero)=some (.agg #[.int .i64 0,.int .i64 0])):∃z i,P.info? T=some i/\i.zero=some z/\∀I,RV I noNames (.agg [.int .i64 0,.int .i64 0]) z:=by
 cases hi:P.info? T with
 |none=>grind
 |some i=>
  rw[hi]at h;refine⟨_,i,rfl,h,λI=>.agg _ [.int .i64 0,.int .i64 0] rfl λj c v Z hv=>?_⟩;rcases j with _|_|j
  ·simp at Z hv;subst Z;subst hv;exact .int _ _
  ·simp at Z hv;subst Z;subst hv;exact .int _ _
  ·simp at Z
end
end Go.Rse
namespace Go.Rse
open Go Go.RowKit
section
variable{P:Program}{C:Ctx}{st:St}{ty:TypeId}{Q:Exit->St->Prop}
def zcB{α:Type}{enc:α->List AV}{l:List α}{E t:TypeId}{x y:Operand}{k s:Nat}{kk:IntKind}{i:Int}{ag:Bool}(hx:ev st x=some (.own k))(hk:lk st.h k=some (.row enc l E s))(V:ev st y=some (.int kk i))(ht:slOk P t E=true)(hE:tyOk P E ag s=true)
 (h0:0<=i)(h1:i<=l.length):Pur P C (.slice t x none (some y) none) ty st (.sub k s 0 i.toNat):=λg a w dst pos af gd hr=>by
 obtain⟨xs,U,_⟩:=hr.sat.blk k _ hk;have ek:=zaa (yA hr hx);have ey:=y5 (yA hr V)
 have key:∀(A:Option Addr)(c:Nat),g.ρ k=.slice A l.length c->(l.length≠0->∃b,A=some ⟨b,0,none⟩)->l.length<=c→
  ∃v,(execOp a.eval {dst:=dst,op:=.slice t x none (some y) none,type:=ty,pos:=pos,after:=af,guard:=gd}).run P w=.ok (.value v) w/\RV g.I g.ρ (.sub k s 0 i.toNat) v:=λA c hv N J=>by
  refine⟨.slice (if c=0 then A else A.map (·.add (0*s))) (i.toNat-0) (c-0),?_,.sub k s _ _ _ _ (λhm=>?_)⟩
  ·rw[hv]at ek
   have:(Instr.sliceBounds true l.length c none (some (.int kk i)) none).run P w=.ok (0,i.toNat,c) w:=by
    have:i<=(c:Int):=by omega
    simp[Instr.sliceBounds,Instr.sliceBound,asIntOf,h0,this]
   simp[execOp,Instr.sliceAt,Instr.slice,run_underlying (zh ht),←ek,ey,this,yZ hE]
  grind[y9,Addr.add]
 rcases U.2 with⟨hv,T⟩|⟨b,cap,cur,hv,_,_,Z,_⟩
 ·grind
 ·exact key _ cap hv (λ_=>⟨b,rfl⟩) Z
def zob{k:Nat}:∀{cs:List AV}{j:Nat}{c:AV},AV.fr.frL k cs=true->cs[j]? =some c->c.fr k=true
 |[],j,c,_,h=>by simp at h
 |x::r,0,c,hf,h=>by
  simp[AV.fr.frL]at hf;simp at h;subst h;exact hf.1
 |x::r,j+1,c,hf,h=>by
  simp[AV.fr.frL]at hf;exact zob hf.2 (by simpa using h)
def mvF(k k':Nat):AV->AV
 |.own n=>bif n.beq k then .own k' else .own n
 |x=>cln k x
theorem Imp.mv{α:Type}{enc:α->List AV}{l:List α}{E s:Nat}(k k':Nat)(hk:lk st.h k=some (.row enc l E s))(hf:st.fr k'=true):Imp C st {t:=mapT (mvF k k') st.t,h:=(k',.row enc l E s)::(k,.dead)::mapH (mvF k k') st.h}:=λg a w hr=>by
 obtain⟨xs,hw,h1,h2,h3⟩:=hr.sat.blk k _ hk;simp only[St.fr,jA]at hf;let ρ':Nat->Value:=λn=>if n=k' then g.ρ k else g.ρ n
 let O':Owns:=λb=>if y9 (g.ρ k)=some b then some (C.d,k')else g.O b
 have hρ:∀n,some k'≠some n->ρ' n=g.ρ n:=λn hn=>by
  grind
 have T:∀b,y9 (g.ρ k)≠some b->O' b=g.O b:=λb U=>j7 U
 have w9:∀b,y9 (g.ρ k)=some b->O' b=some (C.d,k'):=λb U=>j6 U
 have H:∀x v,x.fr k'=true->RV g.I g.ρ x v->RV g.I ρ' (mvF k k' x) v:=λx v hx h=>by
  have w2:RV g.I ρ' (cln k x) v:=by
   unfold cln;cases hq:x.fr k with
   |false=>exact .any _
   |true=>exact h.renameOpt (nk:=some k') (λn hn=>by simp_all) hρ
  cases x<;>try exact w2
  case own n=>
   simp only[mvF];cases U:n.beq k with
   |false=>exact h.renameOpt (nk:=some k') (λn hn=>by simp_all) hρ
   |true=>
    have:n=k:=by simpa using U
    subst this;have e:=zaa h;cases h with
    |own _ A m c h=>exact .own k' A m c (by grind)
 have G:ImOB ⟨ρ',g.I,O'⟩ w:=by
  refine⟨λb o u hI=>?_,λb n hO=>?_,hr.sat.ob.2⟩
  ·obtain⟨q1,q2⟩:=hr.sat.im b o u hI
   grind
  ·by_cases U:y9 (g.ρ k)=some b
   ·exact hr.sat.ob.1 b _ (h3 b U).1
   ·have:O' b=some n:=hO;rw[T b U]at this;exact hr.sat.ob.1 b n this
 have v9:Dfs C ⟨ρ',g.I,O'⟩ a.defers w:=by
  obtain⟨D,d1,dn,d2⟩:=hr.defers
  grind[Dfs]
 have v8:∀(b kk:Nat),kk≠k->g.O b=some (C.d,kk)->O' b=some (C.d,kk):=λb kk x4 hO=>by
  grind
 refine⟨⟨ρ',g.I,O'⟩,hr.size,v9,λt x hx=>?_,⟨G.1,G.2,λkk B hB=>?_⟩,?_⟩
 ·rw[zim]at hx;cases N:lk st.t t with
  |none=>simp[N]at hx
  |some z=>simp[N]at hx;subst hx;exact H z _ (zjp hf.1 N) (hr.tmps t z N)
 ·simp only[yq]at hB;cases xT:k'.beq kk with
  |true=>
   have e1:k'=kk:=by simpa using xT
   grind[yP]
  |false=>
   simp only[xT,cond_false]at hB;cases x3:k.beq kk with
   |true=>grind[yP]
   |false=>
    simp only[x3,cond_false]at hB;have x4:kk≠k:=λe=>by subst e;simp at x3
    have x2:kk≠k':=λe=>by subst e;simp at xT
    have eρ:ρ' kk=g.ρ kk:=j7 x2;rw[zin]at hB;cases N:lk st.h kk with
    |none=>simp[N]at hB
    |some B0=>
     simp[N]at hB;subst hB;have h0:=hr.sat.blk kk B0 N;have x1:=(zcX hf.2 N).1;cases B0 with
     |box cs E=>
      obtain⟨b2,vs,q1,q2,q3,q4,q5,q6⟩:=h0;refine⟨b2,vs,eρ.trans q1,v8 b2 kk x4 q2,q3,q4,by simpa using q5,λj c v J hv=>?_⟩;rw[jN]at J;cases Z:cs[j]? with
      |none=>simp[Z]at J
      |some c0=>simp[Z]at J;subst J;exact H c0 v (zob x1 Z) (q6 j c0 v Z hv)
     |row enc l E s=>
      grind[yP,mapB]
     |hold vs cs=>
      refine⟨by simpa using h0.1,λj c v J hv=>?_⟩;rw[jN]at J;cases Z:cs[j]? with
      |none=>simp[Z]at J
      |some c0=>simp[Z]at J;subst J;exact H c0 v (zob x1 Z) (h0.2 j c0 v Z hv)
     |obj b2 o=>grind[yP,mapB]
     |yld j on=>
      refine zg1 (bo:=y9 (g.ρ k)) h0 (Im.le_refl _) (λb' _ V=>T b' V) (λb' e=>.inl ⟨k,(h3 b' e).1⟩) ⟨rfl,rfl,rfl,jE _,λ_ _ _=>rfl⟩ (jE _) (λb' n hn=>?_) G;by_cases V:y9 (g.ρ k)=some b'
      ·exact h0.2.2.2.1 b' k (h3 b' V).1
      ·have:O' b'=some (C.d,n):=hn;rw[T b' V]at this;exact h0.2.2.2.1 b' n this
     |mpb kenc venc l=>
      grind[yP,mapB]
     |dead=>trivial
 ·refine⟨hr.ext.I,hr.ext.os,hr.ext.tape,hr.ext.output,hr.ext.drawn,hr.ext.size,λb U hn ho=>?_,λb y n x0 hy=>?_⟩
  ·obtain⟨q1,q2⟩:=hr.ext.keep b U hn ho
   grind
  ·by_cases V:y9 (g.ρ k)=some b
   ·have:O' b=some (y,n):=hy;rw[w9 b V]at this;injection this with this;injection this with e1 e2;subst e1;exact hr.ext.own b C.d k x0 (h3 b V).1
   ·have:O' b=some (y,n):=hy;rw[T b V]at this;exact hr.ext.own b y n x0 this
def fnTy(P:Program)(t:TypeId):Prop:=∃a b c,P.underlying t=some (.func a b c)
def zma{t:TypeId}(Z:fnTy P t)(c:Go.Fn)(u v:Array Value)(w:World):(Op.equal t (.func c u v) .nilFunc).run P w=.ok false w:=by
 obtain⟨p,q,r,Z⟩:=Z;unfold Op.equal;rw[show Op.maxDepth=9999+1 from rfl];unfold Op.equalIn;simp[run_underlying Z]
def zjQ{t:TypeId}(Z:fnTy P t)(w:World):(Op.equal t .nilFunc .nilFunc).run P w=.ok true w:=by
 obtain⟨p,q,r,Z⟩:=Z;unfold Op.equal;rw[show Op.maxDepth=9999+1 from rfl];unfold Op.equalIn;simp[run_underlying Z]
def zsN{t:TypeId}{x y:Operand}{yt:TypeId}{f:FuncId}{cs:List AV}(V:fnTy P t)(hx:ev st x=some (.fn f cs))(Z:ev st y=some .nilf):Pur P C (.binOp .neq t x y yt) ty st (.bool true):=λg a w dst pos af gd hr=>by
 obtain⟨us,e,_,_⟩:=zcY (yA hr hx);have ey:=zg2 (yA hr Z);refine⟨.bool true,?_,.bool _⟩;simp_all[eqGuard,execOp,binOp,zma]
def zoc{t:TypeId}{x y:Operand}{yt:TypeId}(V:fnTy P t)(hx:ev st x=some .nilf)(Z:ev st y=some .nilf):Pur P C (.binOp .neq t x y yt) ty st (.bool false):=λg a w dst pos af gd hr=>by
 have e:=zg2 (yA hr hx);have ey:=zg2 (yA hr Z);refine⟨.bool false,?_,.bool _⟩;simp_all[eqGuard,execOp,binOp,zjQ]
def ChM.gn{ops:Array Oper}{ms:List Nat}{hid:List Nat}{i m:Nat}{fs:List FactM}{o:Oper}(x:AV){d gi t:Nat}{want b:Bool}{g0:List (Nat×Bool)}(h:ChM P C ops ms st hid Q (i+1) (⟨i,some d,x,none,m,(gi,want)::g0⟩::fs))(hm:ms[i]? =some m:=by exact rfl)(ho:ops[i]? =some o:=by exact rfl)(N:o.guard=some (gi,want):=by exact rfl)(Z:o.dst=some d:=by exact rfl)(hi:(ops[gi]?).bind (·.dst)=some t:=by exact rfl)
 (J:zcA fs gi=g0:=by first|exact(rfl:_=[])|exact(rfl:_=[_])|exact(rfl:_=[_,_])|exact(rfl:_=[_,_,_]))(H:lk (stR st hid m fs).t t=some (optV (ze fs g0) g0 (.bool b)):=by exact rfl)(V:zaY fs gi want=(b==want):=by exact rfl)(U:zc8 fs ((gi,want)::g0)=true:=by exact rfl)
 (T:ze fs ((gi,want)::g0)=false:=by exact rfl)(G:d.blt C.n=true:=by exact rfl):ChM P C ops ms st hid Q i fs:=
 .guard hm ho N hi H rfl V (za2 U) (λe=>by rw[T]at e;cases e) (by rw[Z];exact G) (by rw[Z];exact h)
end
end Go.Rse
namespace Go.Rse
open Go Go.RowKit
section
variable{P:Program}{C:Ctx}{st:St}{ty:TypeId}
def ze2{α:Type}{enc:α->List AV}{l:List α}{u:α}{t:TypeId}{x:Operand}{k s i:Nat}{E:TypeId}(hx:ev st x=some (.ptr k s i 0))(hk:lk st.h k=some (.row enc l E s))(J:l[i]? =some u)(hl:(enc u).length=s)(hn:AV.nm.nmL (enc u)=true)
 (ht:tyOk P t true s=true):Pur P C (.load t x) ty st (.agg (enc u)):=λg a w dst pos af gd hr=>by
 obtain⟨b,hb,e⟩:=zah (yA hr hx);obtain⟨xs,H,h1,G,h3⟩:=hr.sat.blk k _ hk;rcases H.2 with⟨hv,_⟩|⟨b',cap,cur,hv,_,hh,x4,_,xT,T⟩
 ·simp_all
 ·have:b'=b:=by simp_all[y9]
  subst this;have N:i<l.length:=(j5.1 J).1
  have x3:i*s+s<=l.length*s:=by
   have G:(i+1)*s<=l.length*s:=jX s N
   grind
  have x2:xs.length=l.length*s:=H.1;have Z:((xs.drop (i*s)).take s).length=s:=by grind
  have V:∀j,j<s->((xs.drop (i*s)).take s)[j]? =xs[i*s+j]? :=λj U=>by
   simp_all
  refine⟨.agg ((xs.drop (i*s)).take s).toArray,?_,.agg _ _ (by rw[Z,hl]) (λj c v hc hv=>?_)⟩
  ·have:=zQ (P:=P) (t:=t) ht (b:=b') (o:=i*s) (w:=w) (vs:=(xs.drop (i*s)).take s) Z (λj v hv=>by
    have U:j<s:=by rw[←Z];exact(j5.1 hv).1
    rw[V j U]at hv;simp only[World.cell?,hh]
    have h0:cur.toList[i*s+j]? =some v:=by
     rw[←hv];conv=>rhs;rw[←T]
     rw[wI,j6 (by omega)]
    simpa using h0)
   simp_all[execOp,Instr.loadAt,Instr.sureAddr]
  ·have U:j<s:=by grind
   rw[V j U]at hv;exact(G i u j c v J hc hv).forget (zw hn hc)
end
end Go.Rse
namespace Go.Rse
open Go Go.RowKit
def y8{P:Program}{C:Ctx}{st:St}{ty t:TypeId}{x:Operand}{f k s i j j2 off:Nat}(h:ev st x=some (.ptr k s i j))[ho:FoK P t f off](e:j+off=j2):Pur P C (.fieldAddr t x f) ty st (.ptr k s i j2):=e▸zeb h ho.h
def zc9{P:Program}{C:Ctx}{rv:List ResultVar}{r:AV}{vs:List Value}{cs:List AV}{Z:List (Nat×Blk)}{e:Exit}{st st':St}(hi:Imp C st st')(h:zkW P C rv r vs cs Z e st'):zkW P C rv r vs cs Z e st:=by
 obtain⟨h1,ts,ex,V,U⟩:=h;exact⟨h1,ts,ex,hi.trans V,U⟩
theorem zuI{P:Program}{C:Ctx}{st:St}{dst:Option Tmp}{ty:TypeId}{fop:Operand}{args:Array Operand}{ts:Array TypeId}{f:FuncId}{caps xs ass:List AV}{hs Z:List (Nat×Blk)}{kp:List Nat}{r:AV}
 (μ:List (Nat×Nat))(h:FnO P f ass hs kp r Z)(hf:ev st fop=some (.fn f caps))(hx:evs st args.toList=some xs)(hμ:biOk μ=true)(T:LeL (xs++caps) (ass.map (AV.ren μ)))(N:ass.all (AV.okN (keys hs))=true)(J:r.okN (keys Z)=true)
 (H:zaN st μ (keys hs) hs)(V:∀p∈Z,(fwd μ p.1).isSome=true/\p.2.okNB (keys Z)=true)(U:∀p∈μ,kp.any (·.beq p.1)=true\/(hs.any (·.1.beq p.1)=true/\Z.any (·.1.beq p.1)=false)\/(hs.any (·.1.beq p.1)=false/\st.fr p.2=true))
 (G:∀n∈kp,hs.any (·.1.beq n)=true)(E:dOk C.n dst=true):
 yz P C (.call {callee:=.value fop,args:=args,argTypes:=ts}) ty dst st (zbP st μ hs Z dst r):=λg a w pos af gd hr K hK=>by
 obtain⟨A,e2,h0⟩:=zhu (dst:=dst) (ty:=ty) (ts:=ts) μ h.r hf hx hμ T N J H V U G E hr;unfold wp1
 grind[Calls.mono,zbL]
def zda{C:Ctx}{st:St}{α:Type}(enc:α->List AV)(E s b k i E0:Nat)(cs cs2:List AV)(ht:lk st.h b=some (.box cs E0))(hi:cs[i]? =some .nils)(V:cs.set i (.own k)=cs2)(hf:st.fr k=true):Imp C st {t:=st.t,h:=(b,.box cs2 E0)::(k,.row enc [] E s)::st.h}:=λg a w hr=>by
 subst V
 have U:b≠k:=λe=>by
  subst e;simp[St.fr]at hf;exact(zcX hf.2 ht).2 rfl
 have H:Add (some k) g w {ρ:=λn=>if n=k then .slice none 0 0 else g.ρ n,I:=g.I,O:=g.O} w:=⟨Im.le_refl _,λn hn=>by
  have:n≠k:=λe=>hn (by rw[e])
  simp[this],λ_ _=>rfl,Grow.refl w⟩
 have h1:=hr.add (d:=none) (x:=.any) (v:=.nilIface) H (λn hn=>by injection hn with hn;subst hn;exact hf) (λt h=>by simp at h) (.any _) hr.sat.im hr.sat.ob;have J:=h1.withBlk (k:=k) (B:=.row enc [] E s) ⟨[],⟨by simp,.inl ⟨by simp,rfl⟩⟩,λi x h=>by simp at h,λi x j c v h=>by simp at h,λb G=>by simp[y9]at G⟩
 have T:lk ((k,Blk.row enc [] E s)::st.h) b=some (.box cs E0):=by
  have:k.beq b=false:=beqF.2 λe=>U e.symm
  simp[yq,this,ht]
 obtain⟨b1,vs,e1,e2,e3,e4,e5,e6⟩:=J.sat.blk b _ T;refine⟨_,J.withBlk (k:=b) (B:=.box (cs.set i (.own k)) E0) ⟨b1,vs,e1,e2,e3,e4,by simpa using e5,λj c v Z hv=>?_⟩⟩;rw[List.getElem?_set]at Z;split at Z
 ·rename_i N;subst N;split at Z
  ·injection Z with Z;subst Z;have:=zdH (e6 i .nils v hi hv);rw[this];exact .own k none 0 0 (by simp)
  ·simp at Z
 grind
def zsO{P:Program}{C:Ctx}{st:St}{dst:Option Tmp}{ty:TypeId}{fop:Operand}{args:Array Operand}{ts:Array TypeId}{f:FuncId}{caps xs as':List AV}{hs Z:List (Nat×Blk)}{kp:List Nat}{r:AV}
 (μ:List (Nat×Nat))(h:FnO P f as' hs kp r Z)(hf:ev st fop=some (.fn f caps):=by exact rfl)(hx:evs st args.toList=some xs:=by exact rfl)(hμ:biOk μ=true:=by exact rfl)(T:LeL (xs++caps) (as'.map (AV.ren μ)):=by exact LeL.refl _)(N:as'.all (AV.okN (keys hs))=true:=by exact rfl)(J:r.okN (keys Z)=true:=by exact rfl)
 (H:zaN st μ (keys hs) hs:=by repeat'(first|exact True.intro|refine And.intro ⟨_,_,rfl,rfl,LeB.refl _,rfl⟩ ?_))(V:(Z.all λp=>(fwd μ p.1).isSome&&p.2.okNB (keys Z))=true:=by exact rfl)
 (U:(μ.all λp=>kp.any (·.beq p.1)||(hs.any (·.1.beq p.1)&&!(Z.any (·.1.beq p.1)))||(!(hs.any (·.1.beq p.1))&&st.fr p.2))=true:=by exact rfl)
 (G:(kp.all λn=>hs.any (·.1.beq n))=true:=by exact rfl)(E:dOk C.n dst=true:=by exact rfl):
 yz P C (.call {callee:=.value fop,args:=args,argTypes:=ts}) ty dst st (zbP st μ hs Z dst r):=by
 grind[zuI]
end Go.Rse
namespace Go.Rse
open Go Go.RowKit
def AV.flat:AV->Bool
 |.int _ _|.bool _|.str _|.nils|.nilf|.val _=>true
 |.agg cs=>flatL cs
 |.tup cs=>flatL cs
 |_=>false
where flatL:List AV->Bool
 |[]=>true
 |x::r=>x.flat&&flatL r
def za3:∀{cs:List AV},AV.flat.flatL cs=true->∀{j:Nat}{c:AV},cs[j]? =some c->c.flat=true
 |[],_,_,_,h=>by simp at h
 |x::r,h,0,c,e=>by
  simp[AV.flat.flatL]at h;simp at e;exact e▸h.1
 |x::r,h,j+1,c,e=>by
  simp[AV.flat.flatL]at h;exact za3 h.2 (by simpa using e)
def RV.flat{I J:Im}{ρ ρ':Nat->Value}{x:AV}{v:Value}(h:RV I ρ x v)(hf:x.flat=true):RV J ρ' x v:=by
 induction h with
 |int k n=>exact .int k n
 |bool b=>exact .bool b
 |str s=>exact .str s
 |nils=>exact .nils
 |nilf=>exact .nilf
 |val v=>exact .val v
 |agg cs vs hl hv ih=>exact .agg cs vs hl (λj c v V Z=>ih j c v V Z (za3 (by simpa[AV.flat]using hf) V))
 |tup cs vs hl hv ih=>exact .tup cs vs hl (λj c v V Z=>ih j c v V Z (za3 (by simpa[AV.flat]using hf) V))
 |_=>simp[AV.flat]at hf
abbrev Hyp:=Im->Owns->World->Prop
def FnW(P:Program)(f:FuncId)(az:List AV)(r:AV)(H:Hyp):Prop:=
 zan P f=true/\r.nm=true/\∀(g:Gh)(w:World)(args:List Value),ImO g.I g.O w->H g.I g.O w->RVL g.I noNames az args→
  Calls P f args.toArray w λe w'=>∃v g',e=.returned v/\RV g'.I noNames r v/\Add none g w g' w'/\ImOB g' w'
def FnW.go{P:Program}{f:FuncId}{fn:Func}{c:Code}{n:Nat}{az:List AV}{rv:List ResultVar}{r:AV}{H:Hyp}(hf:P.funcs[f]? =some fn)(hn:fn.ntmps=n)(h:∀g w d,H g.I g.O w->(∀b n,g.O b≠some (d,n))->X P (C0 n d g w) c ⟨zbx 0 az,[]⟩ (RetQ P (C0 n d g w) rv r))(E:fn.body=some c:=by exact rfl)
 (N:fn.results=rv.toArray:=by exact rfl)(hc:zan P f=true:=by kernel_rfl)(hnm:r.nm=true:=by exact rfl)(V:az.length<=n:=by simp):FnW P f az r H:=by
 refine⟨hc,hnm,λg w args U hH Z=>(callsIn_wide (n:=0)).1 (callsIn_of_wp_marks hf E trivial ?_)⟩;obtain⟨d,G,-⟩:=zc5 g.O w.heap.size [] U.2.1;have T:=zfm (C:=C0 n d ⟨noNames,g.I,g.O⟩ w) (I:=g.I) (O:=g.O) (m:=fn.ntmps) rfl rfl hn V U Z;exact wpIn_mono (h ⟨noNames,g.I,g.O⟩ w d hH G _ _ w T) λe a w'⟨st,g1,J,hq⟩=>zsF.plain N hnm hq g1 a w' J G
def FnOW(P:Program)(f:FuncId)(az:List AV){α:Type}(enc:α->List AV)(l:List α)(E s:Nat)(H:Hyp):Prop:=
 zan P f=true/\∀(d:Nat)(ρ:Nat->Value)(I:Im)(O:Owns)(w:World)(args:List Value),(∀b n,O b≠some (d,n))->ImO I O w->H I O w->RVL I ρ az args→
  Calls P f args.toArray w λe w'=>∃v ρ' I' O',e=.returned v/\Sat (C0 0 d ⟨ρ,I,O⟩ w) [(5,.row enc l E s)] ⟨ρ',I',O'⟩ w'/\RV I' ρ' (.own 5) v/\Ext (C0 0 d ⟨ρ,I,O⟩ w) ⟨ρ',I',O'⟩ w'
def FnO.ow{P:Program}{f:FuncId}{az:List AV}{α:Type}{enc:α->List AV}{l:List α}{E s:Nat}(h:FnO P f az [] [] (.own 5) [(5,.row enc l E s)]):FnOW P f az enc l E s λ_ _ _=>True:=
 ⟨h.1,λd ρ I O w args _ V _ Z=>Calls.mono (h.2 d ρ I O w args ⟨V.1,V.2,λk B U=>by simp[lk]at U⟩ Z) λe w'⟨v,ρ',I',O',h1,T,N,J,_⟩=>⟨v,ρ',I',O',h1,T,N,J⟩⟩
def FnOW.go{P:Program}{f:FuncId}{fn:Func}{c:Code}{n:Nat}{az:List AV}{rv:List ResultVar}{α:Type}{enc:α->List AV}{l:List α}{E s:Nat}{H:Hyp}(hf:P.funcs[f]? =some fn)(hn:fn.ntmps=n)
 (h:∀g w d,H g.I g.O w->(∀b n,g.O b≠some (d,n))->X P (C0 n d g w) c ⟨zbx 0 az,[]⟩ (λe st=>(e=.normal\/e=.ret)/\∃ts ex,Imp (C0 n d g w) st ⟨ts,(5,.row enc l E s)::ex⟩/\RetVs P ⟨ts,(5,.row enc l E s)::ex⟩ rv (.own 5)))(hb:fn.body=some c:=by exact rfl)
 (x3:fn.results=rv.toArray:=by exact rfl)(hc:zan P f=true:=by kernel_rfl)(w2:az.length<=n:=by simp):FnOW P f az enc l E s H:=by
 refine⟨hc,λd ρ I O w args x2 T hH V=>(callsIn_wide (n:=0)).1 (callsIn_of_wp_marks hf hb trivial ?_)⟩;have v9:args.length=az.length:=V.1;let C:=C0 n d ⟨ρ,I,O⟩ w
 have N:Rel C ⟨zbx 0 az,[]⟩ ⟨ρ,I,O⟩ {tmps:=args.toArray++Array.replicate (fn.ntmps-args.toArray.size) undef,defers:=[]} w:=by
  refine⟨by simp[hn,C];omega,Dfs.nil _ _ _,λt x hx=>?_,⟨T.1,T.2,λk B hB=>by simp[lk]at hB⟩,⟨Im.le_refl _,rfl,rfl,rfl,jE _,jE _,λ_ _ _ _=>⟨rfl,rfl⟩,λb y n _ hy=>⟨n,hy⟩⟩⟩;obtain⟨_,J⟩:=zc2 (I:=I) (ρ:=ρ) az 0 t x hx;simp only[x6]at J;have ht:t<args.length:=by grind
  have e:(args.toArray++Array.replicate (fn.ntmps-args.toArray.size) undef).getD t undef=args[t]:=by
   simp[jM,uU,ht]
  rw[e];exact V.2 t x _ J (jB ht)
 refine wpIn_mono (h ⟨ρ,I,O⟩ w d hH x2 _ _ w N) ?_
 rintro e a w'⟨st,g1,x1,he,ts',ex',G,xT⟩
 obtain⟨g2,U⟩:=G g1 a w' x1
 have x4:LeavesInM Fence.wide 0 P fn a.tmps (λe w'=>∃v ρ' I' O',e=.returned v/\Sat (C0 0 d ⟨ρ,I,O⟩ w) [(5,.row enc l E s)] ⟨ρ',I',O'⟩ w'/\RV I' ρ' (.own 5) v/\Ext (C0 0 d ⟨ρ,I,O⟩ w) ⟨ρ',I',O'⟩ w') a.defers .returning w':=by
  obtain⟨D,hD,x0,w9⟩:=U.defers;refine zaW (C:=C) x3 xT rfl (λg3 w3 v Z hv=>?_) D hD.plain x0 w9 ⟨U.size,Dfs.nil _ _ _,U.tmps,U.sat,U.ext⟩;refine⟨v,g3.ρ,g3.I,g3.O,rfl,⟨Z.sat.im,Z.sat.ob,λk B hB=>?_⟩,hv,⟨Z.ext.I,Z.ext.os,Z.ext.tape,Z.ext.output,Z.ext.drawn,Z.ext.size,Z.ext.keep,Z.ext.own⟩⟩;refine(Z.sat.blk k B ?_).ctx
  grind[lk]
 rcases he with rfl|rfl<;>exact x4
section
variable{P:Program}{C:Ctx}{st:St}{ty:TypeId}
def zzd{ι:Type}{fop:Operand}{args:Array Operand}{ts:Array TypeId}{f:FuncId}{caps xs az:ι->List AV}{r:AV}{H:ι->Hyp}{stF:ι->St}(hl:∀g a w,Rel C st g a w->∃i gF,Rel C (stF i) gF a w/\H i gF.I gF.O w)(h:∀i,FnW P f (az i) r (H i))
 (hf:∀i,ev (stF i) fop=some (.fn f (caps i)):=by intro i;rfl)(hx:∀i,evs (stF i) args.toList=some (xs i):=by intro i;rfl)(hn:∀i,AV.nm.nmL (xs i++caps i)=true:=by intro i;rfl)(J:∀i,LeL (xs i++caps i) (az i):=by intro i;exact LeL.refl _)(hr:r.flat=true:=by rfl):
 yy P C (.call {callee:=.value fop,args:=args,argTypes:=ts}) ty st r none:=λg a w dst pos af gd Z K E=>by
 obtain⟨i,gF,V,hH⟩:=hl g a w Z;obtain⟨us,e,G,hu⟩:=zcY (yA V (hf i));have U:=zeQ V (hx i);have N:RVL gF.I noNames (az i) (args.toList.map a.eval++us):=(J i).rvl ((U.append ⟨G,hu⟩).forget (hn i));have h0:=(h i).2.2 gF w _ ⟨V.sat.im,V.sat.ob⟩ hH N;have e1:(args.toList.map a.eval++us).toArray=args.map a.eval++us.toArray:=by simp_all
 rw[e1]at h0
 have e2:(execOp a.eval {dst:=dst,op:=.call {callee:=.value fop,args:=args,argTypes:=ts},type:=ty,pos:=pos,after:=af,guard:=gd}).run P w=.ok (.enter f (args.map a.eval++us.toArray)) w:=by
  simp only[execOp,resolve,e,Deferred.ofValue,jP,jU,jI,invoke,zV (h i).1];simp
 unfold wp1;rw[e2];refine Calls.mono h0 ?_
 rintro e w'⟨v,g',rfl,h1,h2,h3⟩
 refine⟨v,rfl,?_⟩;have T:=h2.grow;refine E v w' g ⟨Im.le_refl _,λ_ _=>rfl,λ_ _=>rfl,T⟩ (h1.flat hr) ⟨λb o u hI=>⟨T.cell (Z.sat.im b o u hI).1,(Z.sat.im b o u hI).2⟩,Z.sat.ob.up (Im.le_refl _) T.size⟩ (λ_ _ h=>by cases h)
def A_lendO{ι:Type}{fop:Operand}{args:Array Operand}{ts:Array TypeId}{f:FuncId}{caps xs az:ι->List AV}{α:Type}{enc:α->List AV}{l:List α}{E s:Nat}{H:ι->Hyp}{stF:ι->St}(k:Nat)(hl:∀g a w,Rel C st g a w->∃i gF,Rel C (stF i) gF a w/\H i gF.I gF.O w)(h:∀i,FnOW P f (az i) enc l E s (H i))
 (x2:∀x,AV.flat.flatL (enc x)=true:=by intro x;rfl)(hf:∀i,ev (stF i) fop=some (.fn f (caps i)):=by intro i;rfl)(hx:∀i,evs (stF i) args.toList=some (xs i):=by intro i;rfl)(x1:∀i,LeL (xs i++caps i) (az i):=by intro i;exact LeL.refl _):
 yy P C (.call {callee:=.value fop,args:=args,argTypes:=ts}) ty st (.own k) (some (k,.row enc l E s)):=λg a w dst pos af gd T K hK=>by
 obtain⟨i,gF,U,hH⟩:=hl g a w T;obtain⟨us,e,x0,hu⟩:=zcY (yA U (hf i));have N:=zeQ U (hx i);have G:RVL gF.I gF.ρ (az i) (args.toList.map a.eval++us):=(x1 i).rvl (N.append ⟨x0,hu⟩);obtain⟨dc,w9,_⟩:=zc5 gF.O w.heap.size [] U.sat.ob.1;have h0:=(h i).2 dc gF.ρ gF.I gF.O w _ w9 ⟨U.sat.im,U.sat.ob⟩ hH G;have e1:(args.toList.map a.eval++us).toArray=args.map a.eval++us.toArray:=by simp_all
 rw[e1]at h0
 have e2:(execOp a.eval {dst:=dst,op:=.call {callee:=.value fop,args:=args,argTypes:=ts},type:=ty,pos:=pos,after:=af,guard:=gd}).run P w=.ok (.enter f (args.map a.eval++us.toArray)) w:=by
  simp only[execOp,resolve,e,Deferred.ofValue,jP,jU,jI,invoke,zV (h i).1];simp
 unfold wp1;rw[e2];refine Calls.mono h0 ?_
 rintro e w'⟨v,ρ',I',O',rfl,hs,hv,Z⟩
 refine⟨v,rfl,?_⟩
 have J:Grow w w':=⟨Z.os,Z.tape,Z.output,Z.drawn,Z.size,λb V=>(Z.keep b V (λhk=>by
  rcases hk with hk|⟨n,hk⟩;all_goals grind) (λ⟨y,n,hy,_⟩=>by simp at hy)).1⟩
 let g3:Gh:={ρ:=λn=>if n=k then v else g.ρ n,I:=g.I,O:=λb=>if b<w.heap.size then g.O b else(match O' b with|some (y,n)=>if y=dc/\n=5 then some (C.d,k)else none|none=>none)};have w2:∀b,b<w.heap.size->g3.O b=g.O b:=λb V=>by simp[g3,V]
 have xT:ρ' 5=v:=zaa hv;obtain⟨xs',p1,p2,p3,p4⟩:=hs.blk 5 (.row enc l E s) (by simp[yq])
 have x4:∀b,y9 (ρ' 5)=some b->O' b=some (dc,5)/\w.heap.size<=b:=λb V=>by
  obtain⟨q1,q2⟩:=p4 b V;refine⟨q1,?_⟩;rcases q2 with q2|⟨n,q2⟩;all_goals simp_all
 have v9:ImOB g3 w':=by
  refine⟨λb o u hI=>?_,λb p hO=>?_,T.sat.ob.2⟩
  ·obtain⟨q1,q2⟩:=T.sat.im b o u hI;exact⟨J.cell q1,by grind[zcy]⟩
  ·rcases wD b w.heap.size with V|V
   ·exact w6 V J.size
   ·simp only[g3,Nat.not_lt.2 V,if_false]at hO;cases x3:O' b with
    |none=>simp[x3]at hO
    |some q=>exact hs.ob.1 b q x3
 refine hK v w' g3 ⟨Im.le_refl _,λn hn=>?_,w2,J⟩ ?_ v9 (λk' B hB=>?_)
 ·grind
 ·have v5:=zaa hv;rcases p1.2 with⟨e,_⟩|⟨b,cap,cur,e,_⟩<;>
  ·have e:ρ' 5=_:=e;rw[xT]at e;rw[e];exact .own k _ _ _ (by simp[g3,e])
 ·injection hB with hB;injection hB with e3 e4;subst e3;subst e4;have v8:g3.ρ k=v:=by simp[g3]
  refine⟨xs',by simp_all,p2,λj x q c u hx hc hu=>(p3 j x q c u hx hc hu).flat (za3 (x2 x) hc),λb V=>?_⟩;rw[v8,←xT]at V;obtain⟨q1,q2⟩:=x4 b V;refine⟨by grind,.inl (jT T.ext.size q2)⟩
def y7{α:Type}{enc:α->List AV}{l:List α}{u:α}{t:TypeId}{x:Operand}{k s i j n:Nat}{E:TypeId}{ys:List AV}(hx:ev st x=some (.ptr k s i j))(hk:lk st.h k=some (.row enc l E s))(H:l[i]? =some u)(hy:((enc u).drop j).take n=ys)(hl:ys.length=n)(hj:j+n<=s)(hn:AV.nm.nmL ys=true)
 (ht:tyOk P t true n=true):Pur P C (.load t x) ty st (.agg ys):=λg a w dst pos af gd hr=>by
 obtain⟨b,hb,e⟩:=zah (yA hr hx);obtain⟨xs,G,h1,h2,h3⟩:=hr.sat.blk k _ hk;rcases G.2 with⟨hv,_⟩|⟨b',cap,cur,hv,_,hh,x4,_,xT,T⟩
 ·simp_all
 ·have:b'=b:=by simp_all[y9]
  subst this;have N:i<l.length:=(j5.1 H).1
  have x3:i*s+s<=l.length*s:=by
   have h2:(i+1)*s<=l.length*s:=jX s N
   grind
  have x2:xs.length=l.length*s:=G.1;have Z:((xs.drop (i*s+j)).take n).length=n:=by grind
  have V:∀q,q<n->((xs.drop (i*s+j)).take n)[q]? =xs[i*s+(j+q)]? :=λq U=>by
   grind
  refine⟨.agg ((xs.drop (i*s+j)).take n).toArray,?_,.agg _ _ (by rw[Z,hl]) (λq c v hc hv=>?_)⟩
  ·have:=zQ (P:=P) (t:=t) ht (b:=b') (o:=i*s+j) (w:=w) (vs:=(xs.drop (i*s+j)).take n) Z (λq v hv=>by
    have U:q<n:=by rw[←Z];exact(j5.1 hv).1
    rw[V q U]at hv;simp only[World.cell?,hh]
    have h0:cur.toList[i*s+j+q]? =some v:=by
     rw[←hv];conv=>rhs;rw[←T]
     rw[wI,j6 (by omega),vD]
    simpa using h0)
   simp_all[execOp,Instr.loadAt,Instr.sureAddr]
  ·have U:q<n:=by grind
   rw[V q U]at hv
   have J:(enc u)[j+q]? =some c:=by
    grind
   exact(h2 i u (j+q) c v H J hv).forget (zw hn hc)
def zkX{f:FuncId}{x:Operand}{k s i j:Nat}(hx:ev st x=some (.ptr k s i j)):Pur P C (.makeFunc (.func f) #[x] #[]) ty st (.mth f k s i j):=λg a w dst pos af gd hr=>by
 obtain⟨b,Z,e⟩:=zah (yA hr hx);exact⟨.func (.func f) #[.pointer (some ⟨b,i*s+j,none⟩)] #[],by simp[execOp,Instr.makeFunc,e],.mth f k s i j b Z⟩
def zwY{dst:Option Tmp}{fop:Operand}{args:Array Operand}{ts:Array TypeId}{f:FuncId}{k s i j:Nat}{xs az:List AV}{hs Z:List (Nat×Blk)}{kp:List Nat}{r:AV}
 (μ:List (Nat×Nat))(h:FnO P f az hs kp r Z)(hf:ev st fop=some (.mth f k s i j):=by exact rfl)(hx:evs st args.toList=some xs:=by exact rfl)(hμ:biOk μ=true:=by exact rfl)(H:LeL (.ptr k s i j::xs) (az.map (AV.ren μ)):=by exact LeL.refl _)(G:az.all (AV.okN (keys hs))=true:=by exact rfl)(E:r.okN (keys Z)=true:=by exact rfl)
 (xT:zaN st μ (keys hs) hs:=by repeat'(first|exact True.intro|refine And.intro ⟨_,_,rfl,rfl,LeB.refl _,rfl⟩ ?_))(U:(Z.all λp=>(fwd μ p.1).isSome&&p.2.okNB (keys Z))=true:=by exact rfl)
 (N:(μ.all λp=>kp.any (·.beq p.1)||(hs.any (·.1.beq p.1)&&!(Z.any (·.1.beq p.1)))||(!(hs.any (·.1.beq p.1))&&st.fr p.2))=true:=by exact rfl)
 (x4:(kp.all λn=>hs.any (·.1.beq n))=true:=by exact rfl)(hd:dOk C.n dst=true:=by exact rfl):
 yz P C (.call {callee:=.value fop,args:=args,argTypes:=ts}) ty dst st (zbP st μ hs Z dst r):=λg a w pos af gd hr K hK=>by
 obtain⟨b,hb,e⟩:=zuy (yA hr hf);have V:=zeQ hr hx
 have h1:RVL g.I g.ρ [.ptr k s i j] [.pointer (some ⟨b,i*s+j,none⟩)]:=⟨rfl,λq c v hc hv=>by
  match q with
  |0=>simp at hc hv;subst hc;subst hv;exact .ptr k s i j b hb
  |q+1=>simp at hc⟩
 have J:RVL g.I g.ρ (az.map (AV.ren μ)) ([.pointer (some ⟨b,i*s+j,none⟩)]++args.toList.map a.eval):=H.rvl (h1.append V)
 have h0:=zn4 (T:=Calls P f) (dst:=dst) (λh hm=>Calls.mono h hm) μ h.r.2 hμ G E xT (λp hp=>by have:=jF.1 U p hp;simpa using this) (λp hp=>by
  have:=jF.1 N p hp;simp only[wJ,jA,wL]at this;rcases this with(h1|h1)|h1
  ·exact .inl h1
  ·exact .inr (.inl h1)
  ·exact .inr (.inr h1)) (λn hn=>jF.1 x4 n hn) hd hr J
 have e2:(execOp a.eval {dst:=dst,op:=.call {callee:=.value fop,args:=args,argTypes:=ts},type:=ty,pos:=pos,after:=af,guard:=gd}).run P w=.ok (.enter f (([.pointer (some ⟨b,i*s+j,none⟩)]:List Value)++args.toList.map a.eval).toArray) w:=by
  simp only[execOp,resolve,e,Deferred.ofValue,jP,jU,jI,invoke,zV h.1];simp[←Array.toList_map]
 unfold wp1
 grind[Calls.mono,zbL]
def zhR{κ α:Type}(b:Nat)(kenc:κ->AV)(venc:α->AV)(L:List (κ×α)):Hyp:=λ_ _ w=>
 b<w.heap.size/\∃es ck,w.heap[b]? =some (.map es ck)/\es.size=L.length/\∀(i:Nat)e p,es[i]? =some e->L[i]? =some p->RV (λ_ _=>none) noNames (kenc p.1) e.key/\RV (λ_ _=>none) noNames (venc p.2) e.val
def zhR.now{κ α:Type}{b:Nat}{kenc:κ->AV}{venc:α->AV}{L:List (κ×α)}{I:Im}{O:Owns}(h:zhR b kenc venc L I O C.w0)(Z:C.ds=[])(V:∀b n,C.g0.O b≠some (C.d,n)){g:Gh}{a:Act}{w:World}(hr:Rel C st g a w):zhR b kenc venc L g.I g.O w:=by
 obtain⟨h1,es,ck,T,N,J⟩:=h
 obtain⟨e1,e2⟩:=hr.ext.keep b h1 (λhk=>by
  rcases hk with hk|⟨n,hk⟩
  ·exact absurd hk (kJ.2 h1)
  ·exact V b n hk) (λ⟨y,n,U,_⟩=>by rw[Z]at U;simp at U)
 grind[zhR]
def zqp{α:Type}{venc:α->AV}{l:List (Int×α)}{t K E:TypeId}{x y:Operand}{b:Nat}{q:Int}(z0:α){I:Im}{O:Owns}(hm:zhR b (λi:Int=>.int .i64 i) venc l I O C.w0)(U:∀b n,C.g0.O b≠some (C.d,n))(ht:mpOk P t K E)(hd:∃d,P.underlying K=some (.int d)/\d=.i64)(hz:∃z i,P.info? E=some i/\i.zero=some z/\∀I,RV I noNames (venc z0) z)
 (hf:∀v,(venc v).flat=true:=by intro v;rfl)(T:C.ds=[]:=by rfl)(hx:ev st x=some (.val (.map (some b))):=by exact rfl)(hy:ev st y=some (.int .i64 q):=by exact rfl):
 Pur P C (.lookup t x y false) ty st (venc ((mget q l).getD z0)):=λg a w dst pos af gd hr=>by
 obtain⟨_,es,ck,H,h5,G⟩:=hm.now T U hr;have ex:=zbg (yA hr hx);have ey:=y5 (yA hr hy);obtain⟨d,Z,rfl⟩:=hd;obtain⟨z,i,hi,N,J⟩:=hz;have V:∀(j:Nat)e p,es.toList[j]? =some e->l[j]? =some p->e.key=.int .i64 p.1:=λj e p he hp=>y5 (G j e p (by simpa using he) hp).1
 rcases zhc (q:=q) (d:=.i64) l es.toList 0 (by simpa using h5) V with⟨m1,m2⟩|⟨j,e,v,m1,m2,m3,m4⟩
 ·refine⟨z,?_,?_⟩
  ·simp[execOp,ex,ey,Instr.lookup,run_underlying ht.1,MapKept.run_getObj_map H,MapKept.run_checkKey Z (show MapKept.IsKey (.int .i64) (.int .i64 q)from rfl),MapKept.run_findKey Z m2,Result.andThen,zeroValue,typeInfo,hi,N]
  ·have e1:(mget q l).getD z0=z0:=by simp[mget,m1]
   rw[e1];exact(J g.I).flat (hf _)
 ·simp only[vU]at m1 m2;refine⟨e.val,?_,?_⟩
  ·simp[execOp,ex,ey,Instr.lookup,run_underlying ht.1,MapKept.run_getObj_map H,MapKept.run_checkKey Z (show MapKept.IsKey (.int .i64) (.int .i64 q)from rfl),MapKept.run_findKey Z m2,Result.andThen]
  ·have e1:(mget q l).getD z0=v:=by simp[mget,m1]
   rw[e1];exact(G j e (q,v) (by simpa using m3) m4).2.flat (hf _)
def frzM(k b:Nat):AV->AV
 |.mp k'=>bif k'.beq k then .val (.map (some b))else .mp k'
 |x=>cln k x
def zsP{κ α:Type}{kenc:κ->AV}{venc:α->AV}{L:List (κ×α)}{k:Nat}{stF:Nat->St}(hk:lk st.h k=some (.mpb kenc venc L))(hi:∀b,Imp C ⟨mapT (frzM k b) st.t,(k,.dead)::mapH (frzM k b) st.h⟩ (stF b))(Z:∀x,(kenc x).flat=true)(V:∀x,(venc x).flat=true){g:Gh}{a:Act}{w:World}(hr:Rel C st g a w):
 ∃b gF,Rel C (stF b) gF a w/\zhR b kenc venc L gF.I gF.O w:=by
 obtain⟨b,es,ck,h1,E,h3,N,h5,H⟩:=hr.sat.blk k _ hk
 have hJ:(λb' o=>if b'=b then(none:Option Value)else g.I b' o)=g.I:=by
  funext b' o;split
  ·rename_i e;cases hI:g.I b' o with
   |none=>rfl
   |some u=>have:=(hr.sat.im b' o u hI).2;simp_all
  ·rfl
 have U:=hr.letgo (b:=b) (J:=λ_=>none) (frzM k b) ⟨E,h3⟩ (λo v hv=>by cases hv) λx v hx=>by
  rw[hJ];cases x with
  |mp k'=>
   obtain⟨b',e1,e2⟩:=zgo hx;show RV g.I g.ρ (bif k'.beq k then .val (.map (some b))else .mp k') v;cases hb:k'.beq k
   ·exact hx
   ·have:k'=k:=by simpa using hb
    subst this;rw[h1]at e2;injection e2 with e2;injection e2 with e2;subst e2;rw[e1];exact .val _
  |_=>exact hx.cln (λ_ _=>rfl)
 obtain⟨gF,T⟩:=hi b _ _ _ U;exact⟨b,gF,T,zg N,es,ck,N,h5.1,λi e p he G=>⟨(H i e p he G).1.flat (Z _),(H i e p he G).2.flat (V _)⟩⟩
def znj{stF:St}(hi:Imp C st stF){g:Gh}{a:Act}{w:World}(hr:Rel C st g a w):∃(_:Unit)(gF:Gh),Rel C stF gF a w/\(λ(_:Im)(_:Owns)(_:World)=>True) gF.I gF.O w:=
 let⟨g',h⟩:=hi g a w hr;⟨(),g',h,trivial⟩
def zCm{H:Hyp}(Z:∀g a w,Rel C st g a w->H g.I g.O w){g:Gh}{a:Act}{w:World}(hr:Rel C st g a w):∃(_:Unit)(gF:Gh),Rel C st gF a w/\H gF.I gF.O w:=⟨(),g,hr,Z g a w hr⟩
end
section
variable{P:Program}{C:Ctx}{st:St}{ty:TypeId}{Q:Exit->St->Prop}{ops:Array Oper}{i:Nat}{fs:List FactM}{o:Oper}{x:AV}{nb:Option (Nat×Blk)}
def ChM.lg{ms:List Nat}{hid:List Nat}{m:Nat}{d gi t:Nat}{want b:Bool}{g0:List (Nat×Bool)}{f:FuncId}{caps xs:List AV}{fop:Operand}{args:Array Operand}{ts:Array TypeId}{H:Hyp}(J:∀st g a w,Rel C st g a w->H g.I g.O w)(G:FnW P f (xs++caps) x H)(h:ChM P C ops ms st hid Q (i+1) (⟨i,some d,x,none,m,(gi,want)::g0⟩::fs))(hm:ms[i]? =some m:=by exact rfl)(ho:ops[i]? =some o:=by exact rfl)(E:o.guard=some (gi,want):=by exact rfl)(Z:o.dst=some d:=by exact rfl)(hi:(ops[gi]?).bind (·.dst)=some t:=by exact rfl)
 (xT:zcA fs gi=g0:=by first|exact(rfl:_=[])|exact(rfl:_=[_])|exact(rfl:_=[_,_])|exact(rfl:_=[_,_,_]))(hb:lk (stR st hid m fs).t t=some (optV (ze fs g0) g0 (.bool b)):=by exact rfl)(V:zaY fs gi want=(b==want):=by exact rfl)(U:zc8 fs ((gi,want)::g0)=true:=by exact rfl)
 (T:o.op=.call {callee:=.value fop,args:=args,argTypes:=ts}:=by exact rfl)(hf:ev (stV st hid m fs ((gi,want)::g0)) fop=some (.fn f caps):=by exact rfl)(hx:evs (stV st hid m fs ((gi,want)::g0)) args.toList=some xs:=by exact rfl)(hn:AV.nm.nmL (xs++caps)=true:=by exact rfl)(N:x.flat=true:=by exact rfl)(hd:d.blt C.n=true:=by exact rfl):ChM P C ops ms st hid Q i fs:=
 .guard hm ho E hi hb rfl V (za2 U) (λe=>by rw[T];exact zzd (ι:=Unit) (H:=λ_=>H) (stF:=λ_=>stV st hid m fs ((gi,want)::g0)) (λg a w hr=>zCm (J _) hr) (caps:=λ_=>caps) (xs:=λ_=>xs) (λ_=>G) (λ_=>hf) (λ_=>hx) (λ_=>hn) (λ_=>LeL.refl _) N) (by rw[Z];exact hd) (by rw[Z];exact h)
end
end Go.Rse
namespace Go.Rse
open Go Go.RowKit
open Go.ChangeMaps (setBlock)
section plain
variable{κ α:Type}[DecidableEq κ]
def kix(q:κ):List (κ×α)->Nat->Option Nat
 |[],_=>none
 |p::r,i=>if q=p.1 then some i else kix q r (i+1)
def kput(q:κ)(x:α)(l:List (κ×α)):List (κ×α):=match kix q l 0 with
 |some i=>l.set i (q,x)
 |none=>l++[(q,x)]
def znk{P:Program}{w:World}{K:TypeId}{kv:κ->Value}{q:κ}(Z:∀x y,(Op.equal K (kv x) (kv y)).run P w=.ok (decide (x=y)) w):∀(l:List (κ×α))(es:List MapEntry)(i:Nat),es.length=l.length->(∀(j:Nat)e p,es[j]? =some e->l[j]? =some p->e.key=kv p.1)→
 (kix q l i=none/\(Instr.findAsking K (kv q) es i).run P w=.ok none w)\/∃j e x,kix q l i=some (i+j)/\(Instr.findAsking K (kv q) es i).run P w=.ok (some (i+j,e.val)) w/\es[j]? =some e/\l[j]? =some (q,x)
 |[],[],i,_,_=>.inl ⟨rfl,rfl⟩
 |[],_::_,i,h,_=>by simp at h
 |_::_,[],i,h,_=>by simp at h
 |p::l,e::es,i,hl,hk=>by
  have V:e.key=kv p.1:=hk 0 e p rfl rfl;have he:=Z q p.1;rw[←V]at he;by_cases U:q=p.1
  ·refine .inr ⟨0,e,p.2,by simp[kix,U],?_,rfl,by rw[U];rfl⟩;simp_all[Instr.findAsking]
  ·rcases znk Z (q:=q) l es (i+1) (by simpa using hl) (λj e' p' h1 T=>hk (j+1) e' p' h1 T)with⟨h1,T⟩|⟨j,e',x,h1,T,N,J⟩
   ·simp_all[kix,Instr.findAsking]
   ·refine .inr ⟨j+1,e',x,by simp[kix,U,h1];omega,?_,N,J⟩
    grind[Instr.findAsking,Sem.run_bind,Result.andThen_ok]
def zqq(q:κ)(x:α)(l:List (κ×α)):(kput q x l).map (·.1)=if q∈l.map (·.1)then l.map (·.1)else l.map (·.1)++[q]:=by
 have key:∀(l:List (κ×α))(i:Nat),(kix q l i=none/\q∉l.map (·.1))\/∃j y,kix q l i=some (i+j)/\l[j]? =some (q,y):=by
  intro l
  induction l with
  |nil=>grind[kix]
  |cons p l ih=>
   intro i;by_cases V:q=p.1
   ·exact .inr ⟨0,p.2,by simp[kix,V],by rw[V];rfl⟩
   ·rcases ih (i+1)with⟨h1,Z⟩|⟨j,y,h1,Z⟩
    ·simp_all[kix]
    ·exact .inr ⟨j+1,y,by simp[kix,V,h1];omega,Z⟩
 unfold kput;rcases key l 0 with⟨h1,Z⟩|⟨j,y,h1,Z⟩
 ·simp_all
 ·rw[vU]at h1;rw[h1,j6 (jW.2 ⟨_,j8 Z,rfl⟩)];simp only;apply uI
  grind
end plain
structure KeyL(P:Program)(K:TypeId){κ:Type}[DecidableEq κ](kenc:κ->AV)(kv:κ->Value):Prop where
 val:∀I ρ x v,RV I ρ (kenc x) v->v=kv x
 of:∀I ρ x,RV I ρ (kenc x) (kv x)
 chk:∀em w x,(Instr.checkKey em 10000 K (kv x)).run P w=.ok () w
 wide:(match P.underlying K with|some (.array _ _)|some (.struct _)=>true|_=>false)=true
 eq:∀w x y,(Op.equal K (kv x) (kv y)).run P w=.ok (decide (x=y)) w
 stay:∀w x,(Instr.keyThatStays (kv x) (kv x)).run P w=.ok (kv x) w
section
variable{P:Program}{C:Ctx}{st:St}{ty:TypeId}{Q:Exit->St->Prop}
def zd6{κ α:Type}[DecidableEq κ]{kenc:κ->AV}{kv:κ->Value}{venc:α->AV}{l:List (κ×α)}{t K E:TypeId}{x y z:Operand}{k:Nat}{q:κ}{u c:AV}(v:α)(L:KeyL P K kenc kv)(hx:ev st x=some (.mp k))(hk:lk st.h k=some (.mpb kenc venc l))(hy:ev st y=some c)(hc:c=kenc q)
 (hz:ev st z=some u)(hu:u=venc v)(ht:P.underlying t=some (.map K E))(hf:∀v k,(venc v).fr k=true):
 yz P C (.mapUpdate t x y z) ty none st (putH st k (.mpb kenc venc (kput q v l))):=λg a w pos af gd hr K' hK=>by
 subst hc;obtain⟨b,es,ck,h1,T,N,V,J,h6⟩:=hr.sat.blk k _ hk
 have ex:a.eval x=.map (some b):=by
  obtain⟨b',e1,e2⟩:=zgo (yA hr hx);rw[e1,←e2,h1]
 have ey:a.eval y=kv q:=L.val _ _ _ _ (yA hr hy);have ez:RV g.I noNames (venc v) (a.eval z):=(hu▸yA hr hz).forget' (hf v);have Z:∀(j:Nat)e p,es.toList[j]? =some e->l[j]? =some p->e.key=kv p.1:=λj e p he U=>L.val _ _ _ _ (h6 j e p (by simpa using he) U).1
 have H:=run_findKey_eq w L.wide (kv q) es.toList;rcases znk (P:=P) (w:=w) (q:=q) (L.eq w) l es.toList 0 (by simpa using J.1) Z with⟨m1,m2⟩|⟨j,e,v0,m1,m2,m3,m4⟩
 ·rw[m2]at H
  have er:(Instr.mapUpdate t (.map (some b)) (kv q) (a.eval z)).run P w=.ok () {w with heap:=w.heap.setIfInBounds b (.map (es.push {key:=kv q,val:=a.eval z,born:=ck}) (ck+1))}:=by
   simp[Instr.mapUpdate,run_underlying ht,MapKept.run_getObj_map V,L.chk,H,MapKept.run_setObj_map _ V,Result.andThen]
  simp only[wp1,execOp,ex,ey,jP,er,jI,jU,zbL];refine hK _ _ _ (hr.modify T N (zbR V) (jE _) ⟨b,_,_,h1,T,N,(MapKept.heap_set V).1,⟨?_,?_,?_⟩,?_⟩)
  ·simp[kput,m1,J.1]
  ·simp[kput,m1,J.2.1]
  ·grind
  ·intro i e p he U;simp only[kput,m1]at U;rw[Array.getElem?_push]at he;rw[wM]at U;have xT:=J.1;by_cases hi:i<es.size
   ·grind
   ·split at he
    ·next hie=>
     injection he with he;subst he;rw[j7 (by omega)]at U;have:i-l.length=0:=by omega
     rw[this]at U;simp at U;subst U;exact⟨L.of _ _ _,ez⟩
    simp_all
 ·simp only[vU]at m1 m2;rw[m2]at H;have G:e.key=kv q:=Z j e _ m3 m4;have hj:es[j]? =some e:=by simpa using m3
  have er:(Instr.mapUpdate t (.map (some b)) (kv q) (a.eval z)).run P w=.ok () {w with heap:=w.heap.setIfInBounds b (.map (es.modify j λe=>{e with key:=kv q,val:=a.eval z}) ck)}:=by
   simp[Instr.mapUpdate,run_underlying ht,MapKept.run_getObj_map V,L.chk,H,hj,G,L.stay,MapKept.run_setObj_map _ V,Result.andThen]
  simp only[wp1,execOp,ex,ey,jP,er,jI,jU,zbL];refine hK _ _ _ (hr.modify T N (zbR V) (jE _) ⟨b,_,_,h1,T,N,(MapKept.heap_set V).1,⟨?_,?_,?_⟩,?_⟩);all_goals grind[kput]
def zze{ops:Array Oper}{rest:List Oper}{d:Nat}{pos:String}{af:Array Edge}{κ α:Type}{kenc:κ->AV}{venc:α->AV}{l:List (κ×α)}{t K E:TypeId}{x:Operand}{k:Nat}(kh:Nat)
 (h:∀b bm,Ex P C ops rest ⟨(d,.val (.pointer (some ⟨b,0,none⟩)))::st.t,(kh,.hold [.map (some bm)] [.mp k])::(d,.obj b (.mapIter (some bm) l.length #[] l.length))::st.h⟩ Q)
 (hx:ev st x=some (.mp k):=by exact rfl)(hk:lk st.h k=some (.mpb kenc venc l):=by exact rfl)(ht:P.underlying t=some (.map K E):=by exact rfl)(T:dOk C.n (some d)=true:=by exact rfl)(hn:st.fr d=true:=by exact rfl):
 Ex P C ops ({dst:=some d,op:=.range t x,type:=ty,pos:=pos,after:=af,guard:=none}::rest) st Q:=λg a w hr=>by
 obtain⟨b,es,ck,h1,h2,h3,N,J,h6⟩:=hr.sat.blk k _ hk
 have ex:a.eval x=.map (some b):=by
  obtain⟨b',e1,e2⟩:=zgo (yA hr hx);rw[e1,←e2,h1]
 have Z:k≠d:=λe=>by
  subst e;have:=(zcX (k:=k) (l:=st.h) (by simp_all[St.fr]) hk).2;exact this rfl
 have er:=run_range_map w t K E b es ck ht N;rw[J.2.1]at er;refine wpListIn_plain rfl λK' H=>zaz ?_
 simp only[wp1,execOp,ex,jP,er,jI,jU,zbL];refine H _ _ ?_
 have G:Rel C (addSt st (some d) (.val (.pointer (some ⟨w.heap.size,0,none⟩))) (some (d,.obj w.heap.size (.mapIter (some b) l.length #[] l.length)))) (g.nw C.d w.heap.size d .nilIface) (a.put (some d) (.pointer (some ⟨w.heap.size,0,none⟩))) (w.alloc (.mapIter (some b) l.length #[] l.length)):=
  hr.addSt (Add.nw (Grow.alloc _ _) C.d d _) T hn (.val _) (ImOB.nw ⟨hr.sat.im,hr.sat.ob⟩ (Grow.alloc _ _) (by simp) C.d d _).1 (ImOB.nw ⟨hr.sat.im,hr.sat.ob⟩ (Grow.alloc _ _) (by simp) C.d d _).2 λk' B V=>by
   injection V with V;injection V with e1 e2;subst e1;subst e2;exact⟨heap_alloc_new w _,by simp[Gh.nw],.inl hr.ext.size⟩
 exact h _ _ _ _ _ (G.withBlk (k:=kh) (B:=.hold [.map (some b)] [.mp k]) ⟨rfl,λj c v U hv=>by
  cases j with
  |zero=>simp at U hv;subst U;subst hv;exact .mp k b (by simp[Gh.nw,Z,h1])
  |succ j=>simp at U⟩)
def Ex.nxt{ops:Array Oper}{rest:List Oper}{d e:Nat}{ty':TypeId}{pos pos':String}{af af':Array Edge}{κ α:Type}{kenc:κ->AV}{venc:α->AV}{l:List (κ×α)}{x:Operand}{k b bm kb kh c0:Nat}{seen:Array Nat}
 (h:∀(mo:Bool)(i:Nat),(mo=false->∀i,i<l.length->seen.contains i=true)->(mo=true->i<l.length/\seen.contains i=false)→
  Ex P C ops rest ⟨(e,.bool mo)::(d,.any)::st.t,(kb,.obj b (.mapIter (some bm) l.length (bif mo then seen.push i else seen) (bif mo then l.length else c0)))::st.h⟩ Q)
 (hc:l.length<=c0:=by exact jE _)
 (hx:ev st x=some (.val (.pointer (some ⟨b,0,none⟩))):=by exact rfl)(hb:lk st.h kb=some (.obj b (.mapIter (some bm) l.length seen c0)):=by exact rfl)(hh:lk st.h kh=some (.hold [.map (some bm)] [.mp k]):=by exact rfl)(hk:lk st.h k=some (.mpb kenc venc l):=by exact rfl)
 (hd:dOk C.n (some d)=true:=by exact rfl)(he:dOk C.n (some e)=true:=by exact rfl):
 Ex P C ops ({dst:=some d,op:=.next x false,type:=ty,pos:=pos,after:=af,guard:=none}::{dst:=some e,op:=.extract (.tmp d) 0,type:=ty',pos:=pos',after:=af',guard:=none}::rest) st Q:=λg a w hr=>by
 obtain⟨b',es,ck,h1,h2,h3,h4,h5,h6⟩:=hr.sat.blk k _ hk;obtain⟨q1,q2,q3⟩:=hr.sat.blk kb _ hb
 have xT:bm=b':=by
  obtain⟨_,q⟩:=hr.sat.blk kh _ hh;obtain⟨b2,e1,e2⟩:=zgo (q 0 _ _ rfl rfl);simp_all
 subst xT;have ex:a.eval x=.pointer (some ⟨b,0,none⟩):=zbg (yA hr hx)
 have x4:∀y∈es.toList,∃i,es[i]? =some y/\i<l.length:=λy hy=>by
  simp_all[jQ,wP]
 have U:d<a.tmps.size:=by rw[hr.size];simpa[dOk]using hd
 have fin:∀(mo:Bool)(i:Nat)(w1 w2:World)(v:Value),(mo=false->∀i,i<l.length->seen.contains i=true)->(mo=true->i<l.length/\seen.contains i=false)->(w1=w\/w1=w.drew)→
  w2=(bif mo then setBlock w1 b (.mapIter (some bm) l.length (seen.push i) l.length)else w1)->(Instr.next (.pointer (some ⟨b,0,none⟩)) false ty).run P w=.ok v w2->(∃r,v=.tuple r/\r[0]? =some (.bool mo))→
  wpListIn C.F 0 P ops (lift C Q) ({dst:=some d,op:=.next x false,type:=ty,pos:=pos,after:=af,guard:=none}::{dst:=some e,op:=.extract (.tmp d) 0,type:=ty',pos:=pos',after:=af',guard:=none}::rest) a w:=by
  intro mo i w1 w2 v x3 x2 T x1 N hv;obtain⟨r,rfl,x0⟩:=hv;refine wpListIn_plain rfl λK' hK=>zaz ?_
  simp only[wp1,execOp,ex,jP,N,jI,jU,zbL];refine hK _ _ ?_;refine wpListIn_plain rfl λK' hK=>zaz ?_
  have ee:(a.put (some d) (.tuple r)).eval (.tmp d)=.tuple r:=by
   simp[Act.eval,Act.put,U]
  simp only[wp1,execOp,ee,Instr.extract,x0,jP,jI,jU,zbL];refine hK _ _ ?_
  have J:Rel C st g a w1:=by
   rcases T with rfl|rfl
   ·exact hr
   ·exact hr.add (nk:=none) (d:=none) (x:=.any) (v:=.nilIface) ⟨Im.le_refl _,λ_ _=>rfl,λ_ _=>rfl,Grow.drew w⟩ (λk h=>by simp at h) (λt h=>by simp at h) (.any _) hr.sat.im hr.sat.ob
  have H:w1.heap[b]? =w.heap[b]? :=by rcases T with rfl|rfl<;>rfl
  have Z:Rel C (putH st kb (.obj b (.mapIter (some bm) l.length (bif mo then seen.push i else seen) (bif mo then l.length else c0)))) g a w2:=by
   subst x1;cases mo with
   |false=>exact J.withBlk ⟨H.trans q1,q2,q3⟩
   |true=>
    refine J.modify q2 q3 ⟨rfl,rfl,rfl,by simp[setBlock],λj hj v5=>?_⟩ (jE _) ⟨?_,q2,q3⟩;all_goals grind[setBlock]
  have V:=Z.addSt (nb:=none) (d:=some d) (x:=.any) (v:=.tuple r) (Add.refl _ g w2) hd rfl (.any _) Z.sat.im Z.sat.ob (λ_ _ h=>by cases h);have w9:=V.addSt (nb:=none) (d:=some e) (x:=.bool mo) (v:=.bool mo) (Add.refl _ g w2) he rfl (.bool _) V.sat.im V.sat.ob (λ_ _ h=>by cases h);exact h mo i x3 x2 g _ w2 w9
 rcases run_next_at (P:=P) w ty b bm l.length c0 seen es ck q1 h4 (λy hy=>by
  grind) hc with⟨n1,n2⟩|⟨y,n1,w1,n2,n3⟩
 ·refine fin false 0 w w _ (λ_ i hi=>?_) (by simp) (.inl rfl) rfl n2 ⟨_,rfl,rfl⟩;have G:i<es.size:=by rw[h5.1];exact hi
  cases v9:seen.contains i with
  |true=>rfl
  |false=>
   have hm:es[i]∈leftOf es seen:=by
    unfold leftOf;refine Array.mem_filter.2 ⟨Array.getElem_mem G,?_⟩;rw[h5.2.2 i _ (w7 G),v9];rfl
   simp_all
 ·have hl:=mem_left n1;obtain⟨i,hi,v8⟩:=x4 y hl.1;have E:=h5.2.2 i y hi;rw[E,h5.2.1]at n3;rw[E]at hl;exact fin true i w1 _ _ (by simp) (λ_=>⟨v8,hl.2⟩) n2 rfl n3 ⟨_,rfl,rfl⟩
def zuJ{κ α:Type}{kenc:κ->AV}{venc:α->AV}{l:List (κ×α)}{x:Operand}{k b bm kb kh i:Nat}{seen:Array Nat}(p:κ×α)(E:l[i]? =some p)
 (hx:ev st x=some (.val (.pointer (some ⟨b,0,none⟩))))(hb:lk st.h kb=some (.obj b (.mapIter (some bm) l.length (seen.push i) l.length)))(hh:lk st.h kh=some (.hold [.map (some bm)] [.mp k]))(hk:lk st.h k=some (.mpb kenc venc l))
 (hf:∀v k,(kenc v).fr k=true)(hg:∀v k,(venc v).fr k=true):
 Pur P C (.entry x) ty st (.tup [kenc p.1,venc p.2]):=λg a w dst pos af gd hr=>by
 obtain⟨b',es,ck,h1,h2,h3,h4,U,h6⟩:=hr.sat.blk k _ hk;obtain⟨q1,q2,q3⟩:=hr.sat.blk kb _ hb
 have T:bm=b':=by
  obtain⟨_,q⟩:=hr.sat.blk kh _ hh;obtain⟨b2,e1,e2⟩:=zgo (q 0 _ _ rfl rfl);simp_all
 subst T;have ex:a.eval x=.pointer (some ⟨b,0,none⟩):=zbg (yA hr hx);have Z:i<es.size:=by grind
 have hi:es[i]? =some es[i]:=w7 Z;have N:=U.2.2 i _ hi;rw[←N,←U.2.1]at q1;rw[U.2.1]at q1
 have J:(es.toList.map (·.born)).Nodup:=by
  have:es.toList.map (·.born)=List.range es.size:=by
   apply uI;intro j;rw[jN,uV];by_cases H:j<es.size
   ·rw[vP H,w7 H];exact j9 some (U.2.2 j _ (w7 H))
   ·rw[Array.getElem?_eq_none (by omega),wF (by simp;omega)];rfl
  grind
 have G:=run_entry_at (P:=P) w b bm l.length seen es ck es[i] (by simp_all) h4 (Array.getElem_mem Z|>Array.mem_toList_iff.2) J;obtain⟨r1,r2⟩:=h6 i _ p hi E;refine⟨.tuple #[es[i].key,es[i].val],?_,?_⟩
 ·simp_all[execOp]
 ·refine .tup _ [es[i].key,es[i].val] rfl λj c u V hv=>?_
  rcases j with _|_|j
  ·simp at V hv;subst V;subst hv;exact r1.forget' (hf _)
  ·simp at V hv;subst V;subst hv;exact r2.forget' (hg _)
  ·simp at V
end
end Go.Rse
namespace Go.Rse
open Go Go.RowKit
section
variable{P:Program}{C:Ctx}{st:St}{ty:TypeId}
end
end Go.Rse
namespace Go.Rse
open Go
def getX{α:Type}(l:List α)(k:Nat)(h:k<l.length):∃x,l[k]? =some x/\l[(k:Int).toNat]? =some x:=⟨_,jB h,jB h⟩
def zW{P:Program}{C:Ctx}{Q:Exit->St->Prop}{st:St}{c:Code}(I:Nat->List (Nat×AV))(H:Nat->List (Nat×Blk))(J:Nat->Prop)(n:Nat)(h:∀i,J i->X P C c ⟨I i,H i⟩ (zdK (λst'=>∃i',Imp C st' ⟨I i',H i'⟩/\J i'/\n-i'<n-i) Q))(hJ:J 0:=by first|trivial|omega|(refine⟨?_,?_⟩<;>omega))(h0:Imp C st ⟨I 0,H 0⟩:=by exact yg):X P C (.loop c) st Q:=zen I H J (λk=>n-k) 0 h hJ h0
def zm{P:Program}{C:Ctx}{Q:Exit->St->Prop}{st:St}{c:Code}(I:Nat->List (Nat×AV))(H:Nat->List (Nat×Blk))(n:Nat)(h:∀i,i<=n->X P C c ⟨I i,H i⟩ (zdK (λst'=>∃i',Imp C st' ⟨I i',H i'⟩/\i'<=n/\n-i'<n-i) Q))(h0:Imp C st ⟨I 0,H 0⟩:=by exact yg):X P C (.loop c) st Q:=zen I H (λk=>k<=n) (λk=>n-k) 0 h (wK _) h0
def zE{p:Prop}{α:Sort _}{a b:α}(q:a=b)(h:a=b->p:=by intro q;first|(rw[q];done)|(rw[q];rfl)):p:=h q
def zR{p:Prop}(h:p:=by first|rfl|(simp_all;done)):p:=h
structure Hd(Q:Prop):Prop where
 h:Q
def gq{P Q:Prop}(k:Q)(h:Hd Q→P:=by intro k;(repeat'(first|apply yE|apply zkP|apply ye|apply Ex.nil|apply yh|apply yf|apply yk|apply X.block|apply X.ret|apply X.exit|apply X.scope|(show Ex _ _ _ (_::_) _ _;first|refine ya ?_|refine zz ?_|refine za ?_|refine Ex.mo ?_)|(show ExF _ _ _ _ _ _ _;first|refine ExF.gi ?_|refine yo ?_)|(show RetQ _ _ [.tmp _] _ _ _;refine zaA ?_)));exact k.h):P:=h ⟨k⟩
def gd{P Q R:Prop}(k:Q)(l:R)(h:Hd Q→Hd R→P:=by intro k l;(repeat'(first|apply yE|apply zkP|apply ye|apply Ex.nil|apply yh|apply yf|apply yk|apply X.block|apply X.ret|apply X.exit|apply X.scope|(show Ex _ _ _ (_::_) _ _;first|refine ya ?_|refine zz ?_|refine za ?_|refine Ex.mo ?_)|(show ExF _ _ _ _ _ _ _;first|refine ExF.gi ?_|refine yo ?_)|(show RetQ _ _ [.tmp _] _ _ _;refine zaA ?_)));refine zzc rfl ?_ ?_;exact k.h;exact l.h):P:=h ⟨k⟩ ⟨l⟩
def ge{P Q:Prop}(k:Q)(h:Hd Q→P:=by intro k;apply zdM;(repeat'(first|apply yE|apply zkP|apply ye|apply Ex.nil|apply yh|apply yf|apply yk|apply X.block|apply X.ret|apply X.exit|apply X.scope|(show Ex _ _ _ (_::_) _ _;first|refine ya ?_|refine zz ?_|refine za ?_|refine Ex.mo ?_)|(show ExF _ _ _ _ _ _ _;first|refine ExF.gi ?_|refine yo ?_)|(show RetQ _ _ [.tmp _] _ _ _;refine zaA ?_)));exact k.h):P:=h ⟨k⟩
def gf{P Q R:Prop}(k:Q)(l:R)(h:Hd Q→Hd R→P:=by intro k l;apply zdM;(repeat'(first|apply yE|apply zkP|apply ye|apply Ex.nil|apply yh|apply yf|apply yk|apply X.block|apply X.ret|apply X.exit|apply X.scope|(show Ex _ _ _ (_::_) _ _;first|refine ya ?_|refine zz ?_|refine za ?_|refine Ex.mo ?_)|(show ExF _ _ _ _ _ _ _;first|refine ExF.gi ?_|refine yo ?_)|(show RetQ _ _ [.tmp _] _ _ _;refine zaA ?_)));refine zzc rfl ?_ ?_;exact k.h;exact l.h):P:=h ⟨k⟩ ⟨l⟩
def zzf{α:Type}{P:Program}{C:Ctx}{st:St}{ty:TypeId}{enc:α→List AV}{l:List α}{t E:TypeId}{ag:Bool}{s n:Nat}{parts:Array (Nat×Operand)}{ps:List (Nat×AV)}{z:Value}(ht:slOk P t E=true)(hE:tyOk P E ag s=true)(U:(P.info? E).bind (·.zero)=some z)(Z:0<s:=by decide)(T:zbO st parts.toList=some ps:=by exact rfl)(hk:zcz ps=true:=by exact rfl)(hf:zfL (λi=>some (i*s,s)) (List.replicate (n*s) .any) ps=some (l.flatMap enc):=by exact rfl)(V:l.length=n:=by exact rfl)(hn:n*s≤16777216:=by decide)(hm:n≤1000000:=by decide)(hs:∀x,(enc x).length=s:=by exact(λ_=>rfl))(hnm:AV.nm.nmL (l.flatMap enc)=true:=by exact rfl):yy P C (.buildSlice t n parts) ty st (.sl enc l) none:=yr ht hE U Z T hk hf V hn hm hs hnm
def gc{P':Program}{f:FuncId}{az:List AV}{r:AV}{P Q:Prop}(c:Fn P' f az r)(k:Q)(h:Fn P' f az r→Hd Q→P:=by intro c k;(repeat'(first|apply yE|apply zkP|apply ye|apply Ex.nil|apply yh|apply yf|apply yk|apply X.block|apply X.ret|apply X.exit|apply X.scope|(show Ex _ _ _ (_::_) _ _;first|refine ya ?_|refine zz ?_|refine za ?_|refine Ex.mo ?_)|(show ExF _ _ _ _ _ _ _;first|refine ExF.gi ?_|refine yo ?_)|(show RetQ _ _ [.tmp _] _ _ _;refine zaA ?_)));refine yR c ?_;(repeat'(first|apply yE|apply zkP|apply ye|apply Ex.nil|apply yh|apply yf|apply yk|apply X.block|apply X.ret|apply X.exit|apply X.scope|(show Ex _ _ _ (_::_) _ _;first|refine ya ?_|refine zz ?_|refine za ?_|refine Ex.mo ?_)|(show ExF _ _ _ _ _ _ _;first|refine ExF.gi ?_|refine yo ?_)|(show RetQ _ _ [.tmp _] _ _ _;refine zaA ?_)));exact k.h):P:=h c ⟨k⟩
def kK:=@Pur.stepA
def kL:=@Imp.freeze
def kM:=@RetQ.imp
def kO:=@LeV.eq
def kP:=@X.block
def kQ:=@X.ret
def kR:=@Fn.go
def kS:=@ExF.gi
def kT:=@X.imp
def kU:=@ExF.at
def kV:=@Ex.mo
def kW:=@Ex.nil
def kX:=@LeV.refl
def kY:=@RetQ.ret
def kZ:=@ChM.gi
def bA:=@X.exit
def bB:=@LeV.nils
def bC:=@LeL.refl
def bD:=@LeB.refl
def bE:=@Ex.stepA
def bF:=@Ex.imp
def bG:=@LeB.eq
def bH:=@FnO.introX
def bI:=@X.drawQ
def bJ:=@ExF.cg
def bK:=@ChM.cg
def bL:=@Imp.of
def bM:=@LeB.row
def bN:=@Imp.mv
def bO:=@Im.le_refl
def bP:=@FnO.intro
def bQ:=@LeB.box
def bR:=@LeV.any
end Go.Rse
