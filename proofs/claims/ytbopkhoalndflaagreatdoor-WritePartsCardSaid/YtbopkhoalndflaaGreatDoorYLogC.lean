/-
  The program's data as plain structures, and how they lie in memory.
  Structs held against each other, by type.
  Short forms: rules whose premises are looked for by themselves.
  Functions that are handed blocks and leave more of their own; calls of such, in short form.
  Shifts and bits of small ints.
  Maps of one's own by ints: make, update, lookup with its word.
  What holds at a point, with facts on boxes at hand; the zero value of a map's elements.
  Copies into a row of one's own, its head as a slice, functions held against nil, operations behind a guard that is shut.
  The logic: a part of a row, read.
  Rules: blocks of one's own are lent for a call that only reads; maps that do not change.
  Maps of one's own by structs of two integers: update; range over a map of one's own.
  A row's tail is cleared: its zero may hold nil slices.
-/
import Derived.Test.YtbopkhoalndflaaGreatDoorYTy
import Derived.Test.YtbopkhoalndflaaGreatDoorYLogB
import Derived.MapKept
import Derived.WideKeyRuns
import Derived.ChangeKeysEq
import Derived.Maps.RangeRun
set_option linter.all false
namespace Go.Rse
open Go Go.RowKit
structure Mn where
 Max:Int
 Mod:Int
 Tem:Int
 Pro:Int
 deriving DecidableEq
structure Tm where
 N:Int
 D:Int
 deriving DecidableEq
structure Sg where
 Kind:Int
 Value:Int
 Place:Int
 Acc:Int
 Color:Bool
 Stem:Int
 Oblique:Bool
 Last:Bool
 Mens:Mn
 Stroke:Bool
 N:Int
 D:Int
 CStep:Int
 CLine:Int
 deriving DecidableEq
instance:Inhabited Tm:=⟨⟨0,0⟩⟩
instance:Inhabited Sg:=⟨⟨0,0,0,0,false,0,false,false,⟨0,0,0,0⟩,false,0,0,0,0⟩⟩
abbrev iv(n:Int):AV:=.int .i64 n
def intE:Int->List AV:=λn=>[.int .i64 n]
def za7:Bool->List AV:=λb=>[.bool b]
def mnE:Mn->List AV:=λm=>[.int .i64 m.Max,.int .i64 m.Mod,.int .i64 m.Tem,.int .i64 m.Pro]
def tmE:Tm->List AV:=λt=>[.int .i64 t.N,.int .i64 t.D]
def sgE:Sg->List AV:=λs=>[.int .i64 s.Kind,.int .i64 s.Value,.int .i64 s.Place,.int .i64 s.Acc,.bool s.Color,.int .i64 s.Stem,.bool s.Oblique,.bool s.Last,.int .i64 s.Mens.Max,.int .i64 s.Mens.Mod,.int .i64 s.Mens.Tem,.int .i64 s.Mens.Pro,.bool s.Stroke,.int .i64 s.N,.int .i64 s.D,.int .i64 s.CStep,.int .i64 s.CLine]
def zjh:List Int->List AV:=λl=>[.sl intE l]
abbrev yc(l:List Int):AV:=.sl intE l
abbrev zaP(l:List Bool):AV:=.sl za7 l
abbrev mnA(m:Mn):AV:=.agg (mnE m)
abbrev tmA(t:Tm):AV:=.agg (tmE t)
abbrev sgA(s:Sg):AV:=.agg (sgE s)
abbrev sgsA(l:List Sg):AV:=.sl sgE l
abbrev tmsA(l:List Tm):AV:=.sl tmE l
abbrev zc6(l:List (List Int)):AV:=.sl zjh l
end Go.Rse
namespace Go.Rse
open Go Go.RowKit
section
variable{P:Program}{C:Ctx}{st:St}{ty:TypeId}
def zpe{t:TypeId}{x y:Operand}{yt:TypeId}{xs ys:List AV}{b:Bool}{L:List Nat}{d n:Nat}(h:(eqOk P d t&&decide (d<=10000))=true)(Z:flat P d t=L)(hm:P.eqGuardType P.depth t=false)(ht:tyOk P t true n=true)(hx:ev st x=some (.agg xs))(V:ev st y=some (.agg ys))(U:xs.length=n)(kx:xs.map kAV=L)(ky:ys.map kAV=L)(he:eqL xs ys=some b):
 Pur P C (.binOp .eql t x y yt) ty st (.bool b):=zrb h Z hm (U▸ht) hx V kx ky he
def zpf{t:TypeId}{x y:Operand}{yt:TypeId}{xs ys:List AV}{b:Bool}{L:List Nat}{d n:Nat}(h:(eqOk P d t&&decide (d<=10000))=true)(Z:flat P d t=L)(hm:P.eqGuardType P.depth t=false)(ht:tyOk P t true n=true)(hx:ev st x=some (.agg xs))(V:ev st y=some (.agg ys))(U:xs.length=n)(kx:xs.map kAV=L)(ky:ys.map kAV=L)(he:eqL xs ys=some b):
 Pur P C (.binOp .neq t x y yt) ty st (.bool (!b)):=zrc h Z hm (U▸ht) hx V kx ky he
end
def zh{x y:AV}{xs ys:List AV}{p q:Bool}(h:eqAV x y=some p)(Z:eqL xs ys=some q):eqL (x::xs) (y::ys)=some (p&&q):=by simp only[eqL,h,Z]
def zox(a b:Tm):eqL (tmE a) (tmE b)=some (decide (a=b)):=by
 cases a;cases b;refine(zh rfl (zh rfl rfl)).trans ?_;simp[Bool.decide_and]
def zoy(a b:Sg):eqL (sgE a) (sgE b)=some (decide (a=b)):=by
 obtain⟨a1,a2,a3,a4,a5,a6,a7,a8,⟨a9,a10,a11,a12⟩,a13,a14,a15,a16,a17⟩:=a;obtain⟨b1,b2,b3,b4,b5,b6,b7,b8,⟨b9,b10,b11,b12⟩,b13,b14,b15,b16,b17⟩:=b;refine(zh rfl (zh rfl (zh rfl (zh rfl (zh rfl (zh rfl (zh rfl (zh rfl (zh rfl (zh rfl (zh rfl (zh rfl (zh rfl (zh rfl (zh rfl (zh rfl (zh rfl rfl))))))))))))))))).trans ?_;simp only[Sg.mk.injEq,Mn.mk.injEq,Bool.decide_and,xB,Bool.and_true,xF]
end Go.Rse
namespace Go.Rse
open Go Go.RowKit
class EncK{α:Type}(enc:α->List AV)(s:outParam Nat):Prop where
 h:∀z,(enc z).length=s
instance:EncK intE 1:=⟨λ_=>rfl⟩
instance:EncK tmE 2:=⟨λ_=>rfl⟩
instance:EncK sgE 17:=⟨λ_=>rfl⟩
class TyK(P:Program)(t:Nat)(ag:outParam Bool)(n:outParam Nat):Prop where
 h:tyOk P t ag n=true
class SlK(P:Program)(t:Nat)(E:outParam Nat):Prop where
 h:slOk P t E=true
class FoK(P:Program)(s f:Nat)(off:outParam Nat):Prop where
 h:yT P s f off=true
class TiK(P:Program)(E:Nat)(z:outParam Value)(s bytes:outParam Nat):Prop where
 h:zX P E z s bytes
class ArK(P:Program)(t:Nat)(n E:outParam Nat):Prop where
 h:zdI P t n E=true
class PlK(P:Program)(t:Nat)(pl:outParam (List (Nat×Nat))):Prop where
 h:zQ P t=some pl/\zv P t=true
class ZcK(P:Program)(t:Nat)(cs:outParam (List AV)):Prop where
 h:ze P t cs
class ZeK(P:Program)(t:Nat)(z:outParam Value):Prop where
 h:(P.info? t).bind (·.zero)=some z
class EqK(P:Program)(t:Nat)(L:outParam (List Nat)):Prop where
 h:(eqOk P 5 t&&decide (5<=10000))=true/\flat P 5 t=L/\P.eqGuardType P.depth t=false
section
variable{P:Program}{C:Ctx}{st:St}{ty:TypeId}{Q:Exit->St->Prop}
def zgW{t:TypeId}{x y:Operand}{yt:TypeId}{xs ys:List AV}{b:Bool}{L:List Nat}{n:Nat}(he:eqL xs ys=some b)(h:EqK P t L)(ht:tyOk P t true n=true)(hx:ev st x=some (.agg xs))(Z:ev st y=some (.agg ys))(V:xs.length=n)(kx:xs.map kAV=L)(ky:ys.map kAV=L):
 Pur P C (.binOp .eql t x y yt) ty st (.bool b):=zpe h.h.1 h.h.2.1 h.h.2.2 ht hx Z V kx ky he
def zeV{t:TypeId}{x y:Operand}{yt:TypeId}{xs ys:List AV}{b:Bool}{L:List Nat}{n:Nat}(he:eqL xs ys=some b)(h:EqK P t L)(ht:tyOk P t true n=true)(hx:ev st x=some (.agg xs))(Z:ev st y=some (.agg ys))(V:xs.length=n)(kx:xs.map kAV=L)(ky:ys.map kAV=L):
 Pur P C (.binOp .neq t x y yt) ty st (.bool (!b)):=zpf h.h.1 h.h.2.1 h.h.2.2 ht hx Z V kx ky he
def zh9{I:Im}{ρ:Nat->Value}{b:Bool}{x:AV}{v:Value}(h:RV I ρ (.opt b x) v):(b=true->RV I ρ x v)/\(b=false->v=.tuple #[]):=by
 cases h;exact⟨by assumption,by assumption⟩
def zwV{c x:Operand}{b y:Bool}(Z:ev st c=some (.bool b))(hx:ev st x=some (.opt (b==true) (.bool y))):Pur P C (.pick c x (.const (.bool false))) ty st (.bool (b&&y)):=λg a w dst pos af gd hr=>by
 have ec:=zr (yy hr Z);cases b with
 |true=>
  have ex:=zr ((zh9 (yy hr hx)).1 rfl);exact⟨a.eval x,by simp[execOp,ec,asBool],by rw[ex];exact .bool _⟩
 |false=>
  have e0:a.eval (.const (.bool false))=.bool false:=rfl;exact⟨.bool false,by simp[execOp,ec,asBool,e0],.bool _⟩
def zzv{c x:Operand}{b y:Bool}(Z:ev st c=some (.bool b))(hx:ev st x=some (.opt (b==false) (.bool y))):Pur P C (.pick c (.const (.bool true)) x) ty st (.bool (b||y)):=λg a w dst pos af gd hr=>by
 have ec:=zr (yy hr Z);cases b with
 |false=>
  have ex:=zr ((zh9 (yy hr hx)).1 rfl);exact⟨a.eval x,by simp[execOp,ec,asBool],by rw[ex];exact .bool _⟩
 |true=>
  have e0:a.eval (.const (.bool true))=.bool true:=rfl;exact⟨.bool true,by simp[execOp,ec,asBool,e0],.bool _⟩
def zni{α:Type}{enc:α->List AV}{l:List α}{x y:Operand}{t E:TypeId}{ag:Bool}{s:Nat}{kk:IntKind}{i:Int}(hx:ev st x=some (.sl enc l))(Z:ev st y=some (.int kk i))
 (h:slOk P t E=true)(hs:tyOk P E ag s=true)[he:EncK enc s][Inhabited α](h0:0<=i)(V:i<l.length):
 Pur P C (.indexAddr t x y) ty st (.ept enc (l.getD i.toNat default) 0):=zaj hx Z h hs he.h h0 (by
 rw[j8,jA (by omega)];rfl)
def zhP{α:Type}{enc:α->List AV}{u:α}{t:TypeId}{x:Operand}{n j:Nat}{ys:List AV}(hx:ev st x=some (.ept enc u j))(N:((enc u).drop j).take n=ys)(hl:ys.length=n)(J:AV.nm.nmL ys=true)
 (ht:tyOk P t true n=true):Pur P C (.load t x) ty st (.agg ys):=λg a w dst pos af gd hr=>by
 obtain⟨b,o,vs,e,I,H⟩:=zh0 (yy hr hx);have Z:((List.range n).map λi=>vs (j+i)).length=n:=by simp
 have V:∀i c,ys[i]? =some c->i<n/\(enc u)[j+i]? =some c:=λi c U=>by
  have hi:i<n:=by rw[←hl];exact(j1.1 U).1
  rw[←N,w4,j3 hi,w9]at U;exact⟨hi,U⟩
 refine⟨.agg ((List.range n).map λi=>vs (j+i)).toArray,?_,.agg _ _ (by rw[Z,hl]) (λi c v U hv=>?_)⟩
 ·have:=zL (P:=P) (t:=t) ht (b:=b) (o:=o+j) (w:=w) (vs:=(List.range n).map λi=>vs (j+i)) Z (λi v hv=>by
   rw[jO]at hv;by_cases hi:i<n
   ·simp[vD hi]at hv;subst hv;have U:i<ys.length:=by omega
    have T:=(V i _ (jA U)).2;have:=(hr.sat.im _ _ _ (I (j+i) (j1.1 T).1)).1;rw[uU];exact this
   ·simp[wR (l:=List.range n) (i:=i) (by simp;omega)]at hv)
  simp only[execOp,e,jK,Instr.loadAt,Instr.sureAddr,jL,j9,this]
 ·obtain⟨hi,T⟩:=V i c U;rw[jO,vD hi]at hv;simp at hv;subst hv;exact(H (j+i) c T).forget (zw J U)
def yg{x:Operand}{k s i j:Nat}(h:ev st x=some (.ptr k s i j)):Pur P C (.nilCheck x) ty st (.ptr k s i j):=λg a w dst pos af gd hr=>by
 have hv:=yy hr h;obtain⟨b,_,e⟩:=zad hv;exact⟨_,by simp[execOp,e],e▸hv⟩
def zji{α:Type}{enc:α->List AV}{y:α}{x:Operand}{j:Nat}(h:ev st x=some (.ept enc y j)):Pur P C (.nilCheck x) ty st (.ept enc y j):=λg a w dst pos af gd hr=>by
 have hv:=yy hr h
 have⟨b,o,e⟩:∃b o,a.eval x=.pointer (some ⟨b,o,none⟩):=by
  generalize a.eval x=v at hv;cases hv with|ept _ _ _ b o vs hI hv=>exact⟨b,_,rfl⟩
 exact⟨_,by simp[execOp,e],e▸hv⟩
def zhy{t n E s:Nat}{ag:Bool}{x y:Operand}{k z i j:Nat}{kk:IntKind}{q:Int}(hx:ev st x=some (.ptr k z i j))(Z:ev st y=some (.int kk q))(ht:zdI P t n E=true)(hE:tyOk P E ag s=true)(h0:0<=q)(V:q<n):
 Pur P C (.indexAddr t x y) ty st (.ptr k z i (j+q.toNat*s)):=λg a w dst pos af gd hr=>by
 obtain⟨b,U,e⟩:=zad (yy hr hx);have ey:=y7 (yy hr Z);refine⟨.pointer (some ⟨b,i*z+j+q.toNat*s,none⟩),?_,?_⟩
 ·simp[execOp,Instr.indexAt,asIntOf,Instr.sureAddr,e,ey,run_underlying (zdh ht),h0,V,y4 hE,zK]
 ·have:=RV.ptr (I:=g.I) (ρ:=g.ρ) k z i (j+q.toNat*s) b U;rw[←uU]at this;exact this
def yJ{op:Op}{x:AV}(h:Pur P C op ty st x:=by
 first
  |exact zlh rfl
  |exact za6 rfl
  |exact zpa rfl rfl
  |exact zai rfl rfl rfl TyK.h
  |exact zbh rfl rfl rfl TyK.h
  |exact ziU rfl rfl rfl rfl TyK.h
  |exact ziV rfl rfl rfl TyK.h
  |exact zhP rfl rfl rfl rfl TyK.h
  |exact zhN rfl rfl rfl rfl TyK.h
  |exact zbi rfl rfl (by assumption) rfl rfl TyK.h
  |exact zd8 rfl FoK.h
  |exact zhM rfl FoK.h
  |exact zaj rfl rfl SlK.h TyK.h (λ_=>rfl) (by omega) (by assumption)
  |exact zeL rfl rfl rfl SlK.h TyK.h (by omega) (by omega)
  |exact zni rfl rfl SlK.h TyK.h (by omega) (by omega)
  |exact zgQ rfl SlK.h
  |exact zfe rfl rfl SlK.h
  |exact zd1 rfl SlK.h
  |exact zq3 rfl rfl
  |exact zzh rfl rfl
  |exact zzi rfl rfl
  |exact zzj rfl rfl
  |exact zzk rfl rfl
  |exact zzl rfl rfl
  |exact zzf rfl rfl (uO _ (by omega))
  |exact zoo rfl rfl (uO _ (by omega))
  |exact zzg rfl rfl (uO _ (by omega))
  |exact zwN rfl rfl (by omega) (by omega) (by omega)
  |exact zwO rfl rfl (by omega) (by omega)
  |exact P_quo rfl rfl (by omega) (uO _ (by omega))
  |exact zu8 rfl rfl (by omega)
  |exact zwV rfl rfl
  |exact zzv rfl rfl
  |exact P_and rfl rfl
  |exact P_or rfl rfl
  |exact zmj rfl (by first|assumption|rfl|omega|(simp;done)|(simp;omega)|(simp_all;done)|fail) rfl
  |exact zlm rfl (by first|assumption|rfl|omega|(simp;done)|(simp;omega)|(simp_all;done)|fail) rfl
  |exact zzn rfl
  |exact zzm rfl (uO _ (by omega))
  |exact ztc PlK.h.1 PlK.h.2 ZcK.h rfl rfl rfl
  |exact zm9 ArK.h TyK.h ZcK.h rfl rfl rfl
  |exact zlk ArK.h TyK.h rfl rfl (by omega) (by omega) (by first|rfl|assumption)
  |exact zF ArK.h TyK.h rfl rfl (by omega) (by omega) (by first|rfl|assumption)
  |exact zf8 rfl
  |exact P_nilCheck_fn rfl
  |exact P_convert rfl UnK.h UsK.h (uO _ (by omega))
  |exact zgW (zoy _ _) inferInstance TyK.h rfl rfl rfl rfl rfl
  |exact zeV (zoy _ _) inferInstance TyK.h rfl rfl rfl rfl rfl
  |exact zgW (zox _ _) inferInstance TyK.h rfl rfl rfl rfl rfl
  |exact zeV (zox _ _) inferInstance TyK.h rfl rfl rfl rfl rfl
  |exact zgW (eqL_mnE _ _) inferInstance TyK.h rfl rfl rfl rfl rfl
  |exact zeV (eqL_mnE _ _) inferInstance TyK.h rfl rfl rfl rfl rfl
  |exact zgW rfl inferInstance TyK.h rfl rfl rfl rfl rfl
  |exact zeV rfl inferInstance TyK.h rfl rfl rfl rfl rfl
  |exact zna (by kernel_rfl) rfl rfl
  |exact znb (by kernel_rfl) rfl rfl
  |exact yg rfl
  |exact zji rfl
  |exact zhy rfl rfl ArK.h TyK.h (by omega) (by omega)):Pur P C op ty st x:=h
section
variable{ops:Array Oper}{rest:List Oper}{dst:Option Tmp}{d:Nat}{op:Op}{pos:String}{af:Array Edge}{x:AV}
def ya(h:Ex P C ops rest ⟨(d,x)::st.t,st.h⟩ Q)(hs:Pur P C op ty st x:=by exact yJ)(Z:d.blt C.n=true:=by exact rfl):
 Ex P C ops ({dst:=some d,op:=op,type:=ty,pos:=pos,after:=af,guard:=none}::rest) st Q:=zz hs Z h
def yh(h:Q .normal ⟨(d,x)::st.t,st.h⟩)(hs:Pur P C op ty st x:=by exact yJ)(Z:d.blt C.n=true:=by exact rfl):Ex P C ops ({dst:=some d,op:=op,type:=ty,pos:=pos,after:=af,guard:=none}::[]) st Q:=zz hs Z (Ex.nil h)
def yw{ops:Array Oper}{core:List (Nat×List Nat)}{fl l:List Fl}{b:St}{j:Nat}(h:zhi P C ops core fl b j l:=by(repeat'(first|exact True.intro|refine⟨.inl rfl,?_⟩|refine⟨.inr ⟨_,rfl,rfl,rfl,rfl,Pur.stepA yJ⟩,?_⟩|refine⟨.inr ⟨_,rfl,rfl,rfl,rfl,Pur.stepA (yg rfl)⟩,?_⟩|refine⟨.inr ⟨_,rfl,rfl,rfl,rfl,Pur.stepA (za rfl rfl)⟩,?_⟩|refine⟨.inr ⟨_,rfl,rfl,rfl,rfl,Pur.stepA (P_fieldAddr rfl rfl rfl)⟩,?_⟩))):zhi P C ops core fl b j l:=h
def yO{d1:Nat}{op1:Op}{ty1:TypeId}{pos1:String}{af1:Array Edge}{x1:AV}(h:Q .normal ⟨(d1,x1)::(d,x)::st.t,st.h⟩)(hs:Pur P C op ty st x:=by exact yJ)(U:d.blt C.n=true:=by exact rfl)(Z:Pur P C op1 ty1 ⟨(d,x)::st.t,st.h⟩ x1:=by exact yJ)(V:d1.blt C.n=true:=by exact rfl):Ex P C ops [{dst:=some d,op:=op,type:=ty,pos:=pos,after:=af,guard:=none},{dst:=some d1,op:=op1,type:=ty1,pos:=pos1,after:=af1,guard:=none}] st Q:=ya (yh h Z V) hs U
def yE{d1:Nat}{op1:Op}{ty1:TypeId}{pos1:String}{af1:Array Edge}{x1:AV}{d2:Nat}{op2:Op}{ty2:TypeId}{pos2:String}{af2:Array Edge}{x2:AV}(h:Q .normal ⟨(d2,x2)::(d1,x1)::(d,x)::st.t,st.h⟩)(hs:Pur P C op ty st x:=by exact yJ)(N:d.blt C.n=true:=by exact rfl)(Z:Pur P C op1 ty1 ⟨(d,x)::st.t,st.h⟩ x1:=by exact yJ)(V:d1.blt C.n=true:=by exact rfl)(U:Pur P C op2 ty2 ⟨(d1,x1)::(d,x)::st.t,st.h⟩ x2:=by exact yJ)(T:d2.blt C.n=true:=by exact rfl):Ex P C ops [{dst:=some d,op:=op,type:=ty,pos:=pos,after:=af,guard:=none},{dst:=some d1,op:=op1,type:=ty1,pos:=pos1,after:=af1,guard:=none},{dst:=some d2,op:=op2,type:=ty2,pos:=pos2,after:=af2,guard:=none}] st Q:=ya (ya (yh h U T) Z V) hs N
def zkc(h:Q .ret st):Ex P C ops [] st (zdH (λst=>X P C .ret st Q) Q):=Ex.nil (X.ret h)
def lgg{α:Type _}{l:List α}{i:Nat}(h:i<l.length):l[i]? =some l[i]:=jA h
def yP{fop:Operand}{args:Array Operand}{ts:Array TypeId}{f:FuncId}{caps xs:List AV}{r:AV}
 (Z:Fn P f (xs++caps) r)(h:Ex P C ops rest ⟨(d,r)::st.t,st.h⟩ Q)(hf:ev st fop=some (.fn f caps):=by exact rfl)(hx:evs st args.toList=some xs:=by exact rfl)(V:AV.nm.nmL (xs++caps)=true:=by exact rfl)(U:d.blt C.n=true:=by exact rfl):
 Ex P C ops ({dst:=some d,op:=.call {callee:=.value fop,args:=args,argTypes:=ts},type:=ty,pos:=pos,after:=af,guard:=none}::rest) st Q:=Ex.call hf hx V Z U h
def zeW{T:TypeId}{o:Operand}{y:AV}(h:Ex P C ops rest (addSt st (some d) (.ptr d 0 0 0) (some (d,.box [y] T))) Q)(hx:ev st o=some y:=by exact rfl)(hs:y.sc=true:=by exact rfl)(hf:y.fr d=true:=by exact rfl)(Z:dOk C.n (some d)=true:=by exact rfl)(V:nbOk st (some (d,.box [y] T))=true:=by exact rfl):
 Ex P C ops ({dst:=some d,op:=.box T o,type:=ty,pos:=pos,after:=af,guard:=none}::rest) st Q:=Ex.stepA (zzo hx hs hf) Z V h
def zH{T:TypeId}{o:Operand}{cs:List AV}(h:Ex P C ops rest (addSt st (some d) (.ptr d 0 0 0) (some (d,.box cs T))) Q)(hx:ev st o=some (.agg cs):=by exact rfl)(hf:AV.fr.frL d cs=true:=by exact rfl)(Z:dOk C.n (some d)=true:=by exact rfl)(V:nbOk st (some (d,.box cs T))=true:=by exact rfl):
 Ex P C ops ({dst:=some d,op:=.box T o,type:=ty,pos:=pos,after:=af,guard:=none}::rest) st Q:=Ex.stepA (zfg hx hf) Z V h
def zk{T:TypeId}{cs:List AV}[Z:ZcK P T cs](h:Ex P C ops rest (addSt st (some d) (.ptr d 0 0 0) (some (d,.box cs T))) Q)(V:dOk C.n (some d)=true:=by exact rfl)(U:nbOk st (some (d,.box cs T))=true:=by exact rfl):
 Ex P C ops ({dst:=some d,op:=.alloc T,type:=ty,pos:=pos,after:=af,guard:=none}::rest) st Q:=Ex.stepA (zx Z.h) V U h
def yD{α:Type}(enc:α->List AV)(l:List α){t E:TypeId}{ag:Bool}{s n:Nat}{parts:Array (Nat×Operand)}{ps:List (Nat×AV)}{z:Value}(h:Ex P C ops rest (addSt st (some d) (.own d) (some (d,.row enc l E s))) Q)
 (ht:slOk P t E=true:=by exact SlK.h)(hE:tyOk P E ag s=true:=by exact TyK.h)(T:(P.info? E).bind (·.zero)=some z:=by exact ZeK.h)
 (Z:0<s:=by decide)(N:zbJ st parts.toList=some ps:=by exact rfl)(J:zcu ps=true:=by exact rfl)(hf:zfG (λi=>some (i*s,s)) (List.replicate (n*s) .any) ps=some (l.flatMap enc):=by exact rfl)(V:l.length=n:=by exact rfl)(I:n*s<=16777216:=by decide)(hm:n<=1000000:=by decide)
 (hs:∀x,(enc x).length=s:=by intro _;rfl)(hnm:AV.nm.nmL (l.flatMap enc)=true:=by exact rfl)(H:dOk C.n (some d)=true:=by exact rfl)(U:nbOk st (some (d,.row enc l E s))=true:=by exact rfl):
 Ex P C ops ({dst:=some d,op:=.buildSlice t n parts,type:=ty,pos:=pos,after:=af,guard:=none}::rest) st Q:=Ex.stepA (zD ht hE T Z N J hf V I hm hs hnm) H U h
def Ex.mo{st':St}(h:Ex P C ops rest st' Q)(hs:yC P C op ty dst st st':=by
 first
  |exact z6 rfl rfl rfl rfl TyK.h (ltB rfl)
  |exact zcb rfl rfl rfl rfl TyK.h rfl (leB rfl)
  |exact zd2 rfl rfl rfl rfl SlK.h TiK.h (by decide) (by decide) (λ_=>rfl) (λ_=>rfl) (by first|omega|(simp;done)|(simp;omega)|(simp_all;omega)|fail) rfl
  |exact y6 rfl rfl rfl SlK.h TiK.h (by decide) (by decide) (λ_=>rfl) (λ_=>rfl) (by first|omega|(simp;done)|(simp;omega)|(simp_all;omega)|fail) rfl
  |exact zeT _ rfl rfl (λ_=>rfl) (by decide) (by first|omega|(simp;done)|(simp;omega)|(simp_all;omega)|fail) rfl rfl rfl rfl rfl TyK.h):
  Ex P C ops ({dst:=dst,op:=op,type:=ty,pos:=pos,after:=af,guard:=none}::rest) st Q:=zaf hs h
end
def yd{ts:List (Nat×AV)}{hs:List (Nat×Blk)}(Z:impT st ts:=by
 repeat'(first|exact True.intro|(refine And.intro ⟨_,rfl,?_⟩ ?_;(first|exact LeV.refl _|exact LeV.any _|exact LeB.refl _|(refine LeV.eq ?_;simp;done)|(refine LeV.eq ?_;congr 1;omega)|(refine LeV.eq ?_;dsimp only;congr 1;omega)|(refine LeV.eq (j5 (AV.int _) ?_);omega)|exact LeV.nils _|(refine LeV.eq ?_;congr 1;assumption)))))(V:impH st hs:=by
 repeat'(first|exact True.intro|(refine And.intro ⟨_,rfl,?_⟩ ?_;(first|exact LeB.refl _|exact LeB.row (by assumption)|(refine LeB.eq ?_;congr 1;omega)|(refine LeB.eq ?_;congr 1;simp only[cond_true,cond_false];omega))))):Imp C st ⟨ts,hs⟩:=Imp.of Z V
def zd3{ι:Type}{c:Code}(I:ι->List (Nat×AV))(H:ι->List (Nat×Blk))(J:ι->Prop)(μ:ι->Nat)(i0:ι)(h:∀i,J i->X P C c ⟨I i,H i⟩ (zdH (λst'=>∃i',Imp C st' ⟨I i',H i'⟩/\J i'/\μ i'<μ i) Q))
 (hJ:J i0:=by first|trivial|omega|(refine⟨?_,?_⟩<;>omega))(h0:Imp C st ⟨I i0,H i0⟩:=by exact yd):X P C (.loop c) st Q:=X.loop (λi=>⟨I i,H i⟩) J μ i0 h0 hJ h
class BP(b:Bool)(p n:outParam Prop):Prop where
 t:b=true->p
 f:b=false->n
instance(priority:=10)bp0{b:Bool}:BP b (b=true) (b=false):=⟨id,id⟩
instance(priority:=20)bp1{p:Prop}{i:Decidable p}:BP (@decide p i) p (¬p):=⟨λh=>by simpa using h,λh=>by simpa using h⟩
instance(priority:=30)bp2{x y:Int}{i:Decidable (x<y)}:BP (@decide (x<y) i) (x<y) (y<=x):=⟨λh=>by simpa using h,λh=>by simpa using h⟩
instance(priority:=30)bp3{x y:Int}{i:Decidable (x<=y)}:BP (@decide (x<=y) i) (x<=y) (y<x):=⟨λh=>by simpa using h,λh=>by simpa using h⟩
instance(priority:=30)bp4{b:Bool}{p n:Prop}[h:BP b p n]:BP (!b) n p:=⟨λe=>h.f (by simpa using e),λe=>h.t (by simpa using e)⟩
instance(priority:=30)bp5{a b:Bool}{p n q m:Prop}[h:BP a p n][Z:BP b q m]:BP (a&&b) (p/\q) (n\/m):=⟨λe=>by simp at e;exact⟨h.t e.1,Z.t e.2⟩,λe=>by
 cases a with
 |false=>exact .inl (h.f rfl)
 |true=>exact .inr (Z.f (by simpa using e))⟩
instance(priority:=30)bp6{a b:Bool}{p n q m:Prop}[h:BP a p n][Z:BP b q m]:BP (a||b) (p\/q) (n/\m):=⟨λe=>by
 cases a with
 |true=>exact .inl (h.t rfl)
 |false=>exact .inr (Z.t (by simpa using e)),λe=>by simp at e;exact⟨h.f e.1,Z.f e.2⟩⟩
instance(priority:=40)bp7{b:Bool}{p n:Prop}[h:BP b p n]:BP (b==true) p n:=⟨λe=>h.t (by simpa using e),λe=>h.f (by simpa using e)⟩
instance(priority:=40)bp8{b:Bool}{p n:Prop}[h:BP b p n]:BP (b==false) n p:=⟨λe=>h.f (by simpa using e),λe=>h.t (by simpa using e)⟩
def zwW{c:Operand}{x y:Code}{b:Bool}{p n:Prop}(hc:ev st c=some (.bool b))[h:BP b p n](ht:p->X P C x st Q)(hf:n->X P C y st Q):X P C (.cond c x y) st Q:=X.cond hc (λe=>ht (h.t e)) (λe=>hf (h.f e))
def Fn.go{f:FuncId}{fn:Func}{c:Code}{n:Nat}{az:List AV}{rv:List ResultVar}{r:AV}(hf:P.funcs[f]? =some fn)(U:fn.ntmps=n)(h:∀g w d,X P (C0 n d g w) c ⟨zbs 0 az,[]⟩ (RetQ P (C0 n d g w) rv r))(T:fn.body=some c:=by exact rfl)
 (V:fn.results=rv.toArray:=by exact rfl)(N:zak P f=true:=by kernel_rfl)(hnm:r.nm=true:=by exact rfl)(Z:az.length<=n:=by simp):Fn P f az r:=Fn.intro N hf T U V hnm rfl Z h
end
def tb(m i:Nat):Bool:=((m>>>i)%2).beq 1
def bits(n m:Nat):List Nat:=(List.range n).filter (tb m ·)
def zhj{n m i:Nat}(h:i<n):memb i (bits n m)=tb m i:=by
 cases Z:tb m i with
 |true=>exact zm.2 (wO.2 ⟨uW.2 h,Z⟩)
 |false=>
  cases hm:memb i (bits n m)with
  |false=>rfl
  |true=>have:=(wO.1 (zm.1 hm)).2;rw[Z]at this;cases this
structure FactM:Type 1 where
 i:Nat
 d:Option Nat
 x:AV
 nb:Option (Nat×Blk)
 m:Nat
 g:List (Nat×Bool)
def zaQ:List FactM->Nat->Bool->Bool
 |[],_,_=>false
 |⟨i,_,x,_,_,_⟩::r,j,w=>bif i.beq j then(match x with|.bool b=>b==w|_=>false)else zaQ r j w
def zi(fs:List FactM):List (Nat×Bool)->Bool
 |[]=>true
 |[(j,w)]=>zaQ fs j w
 |(j,w)::e::r=>zaQ fs j w&&zi fs (e::r)
def zbk(fs:List FactM)(e:Nat×Bool)(r:List (Nat×Bool)):zi fs (e::r)=(zaQ fs e.1 e.2&&zi fs r):=by
 cases r with
 |nil=>simp[zi]
 |cons e' r=>rfl
def eqCh:List (Nat×Bool)->List (Nat×Bool)->Bool
 |[],[]=>true
 |(i,a)::r,(j,b)::q=>i.beq j&&(a==b)&&eqCh r q
 |_,_=>false
def zlq:∀{a b:List (Nat×Bool)},eqCh a b=true->a=b
 |[],[],_=>rfl
 |[],_::_,h=>by simp[eqCh]at h
 |_::_,[],h=>by simp[eqCh]at h
 |(i,a)::r,(j,b)::q,h=>by
  simp only[eqCh,j7]at h;obtain⟨⟨Z,V⟩,U⟩:=h;have Z:i=j:=by simpa using Z
  have V:a=b:=by simpa using V
  have T:r=q:=zlq U;subst Z;subst V;subst T;rfl
def sfx(s:List (Nat×Bool)):List (Nat×Bool)->Bool
 |[]=>eqCh s []
 |e::r=>eqCh s (e::r)||sfx s r
def relG(G:List (Nat×Bool)):List (Nat×Bool)->List (Nat×Bool)
 |[]=>[]
 |e::r=>bif sfx (e::r) G then[]else e::relG G r
def optV(c:Bool)(g:List (Nat×Bool))(x:AV):AV:=match g with|[]=>x|_::_=>.opt c x
def zoz(fs:List FactM)(G g:List (Nat×Bool))(x:AV):AV:=match relG G g with|[]=>x|e::q=>.opt (zi fs (e::q)) x
def zkd{fs:List FactM}{s:List (Nat×Bool)}:∀{G:List (Nat×Bool)},sfx s G=true->zi fs G=true->zi fs s=true
 |[],h,Z=>by rw[zlq (a:=s) (b:=[]) (by simpa[sfx]using h)];exact Z
 |e::r,h,Z=>by
  simp only[sfx,wB]at h;rcases h with h|h
  ·rw[zlq h];exact Z
  ·rw[zbk,j7]at Z;exact zkd h Z.2
def zke{fs:List FactM}{G:List (Nat×Bool)}(Z:zi fs G=true):∀g,zi fs g=zi fs (relG G g)
 |[]=>rfl
 |e::r=>by
  simp only[relG];cases hs:sfx (e::r) G with
  |true=>simp only[cond_true];rw[zkd hs Z];rfl
  |false=>simp only[cond_false];rw[zbk,zbk,zke Z r]
def zoA{fs:List FactM}{G g:List (Nat×Bool)}{x:AV}{I:Im}{ρ:Nat->Value}{v:Value}(V:zi fs G=true)(h:RV I ρ (optV (zi fs g) g x) v):RV I ρ (zoz fs G g x) v:=by
 have hr:=zke V g;unfold zoz;cases Z:relG G g with
 |nil=>
  rw[Z]at hr;have hr:zi fs g=true:=hr;cases g with
  |nil=>exact h
  |cons e r=>exact(zh9 h).1 hr
 |cons e q=>
  rw[Z]at hr;cases g with
  |nil=>simp[relG]at Z
  |cons e' r=>
   have h:RV I ρ (.opt (zi fs (e'::r)) x) v:=h;rw[hr]at h;exact h
def WF:List FactM->Prop
 |[]=>True
 |f::r=>(∀f'∈r,f'.i<f.i)/\(∀e∈f.g,∃f'∈r,f'.i=e.1)/\WF r
def zmt{f:FactM}{r:List FactM}{j:Nat}{w:Bool}(h:f.i≠j):zaQ (f::r) j w=zaQ r j w:=by
 obtain⟨i,d,x,nb,m,g⟩:=f;show(bif i.beq j then _ else zaQ r j w)=_;rw[beqF.2 h];rfl
def zjj{f:FactM}{r:List FactM}:∀{g:List (Nat×Bool)},(∀e∈g,f.i≠e.1)->zi (f::r) g=zi r g
 |[],_=>rfl
 |e::q,h=>by rw[zbk,zbk,zmt (h e (by simp)),zjj λe he=>h e (by simp[he])]
def toL(n:Nat):List FactM->List Fact
 |[]=>[]
 |f::r=>⟨f.i,f.d,optV (zi r f.g) f.g f.x,f.nb,bits n f.m⟩::toL n r
def selR(m:Nat)(b:List (Nat×AV)):List FactM->List (Nat×AV)
 |[]=>b
 |⟨i,d,x,_,_,g⟩::r=>bif tb m i then consT d (optV (zi r g) g x) (selR m b r)else selR m b r
def zrn(fs:List FactM)(d:Option Nat)(x:AV)(l:List (Nat×AV)):List (Nat×Bool)->List (Nat×AV)
 |[]=>consT d x l
 |e::q=>consT d (.opt (zi fs (e::q)) x) l
def zmu(fs:List FactM)(G g:List (Nat×Bool))(d:Option Nat)(x:AV)(l:List (Nat×AV)):zrn fs d x l (relG G g)=consT d (zoz fs G g x) l:=by
 unfold zoz;cases relG G g<;>rfl
def selV(fs:List FactM)(G:List (Nat×Bool))(m:Nat)(b:List (Nat×AV)):List FactM->List (Nat×AV)
 |[]=>b
 |⟨i,d,x,_,_,g⟩::r=>bif tb m i then zrn fs d x (selV fs G m b r) (relG G g)else selV fs G m b r
def zkf(m:Nat)(b:List (Nat×Blk)):List FactM->List (Nat×Blk)
 |[]=>b
 |⟨i,_,_,nb,_,_⟩::r=>bif tb m i then zj6 nb (zkf m b r)else zkf m b r
def allR(b:List (Nat×AV)):List FactM->List (Nat×AV)
 |[]=>b
 |⟨_,d,x,_,_,g⟩::r=>consT d (optV (zi r g) g x) (allR b r)
def allV(fs:List FactM)(G:List (Nat×Bool))(b:List (Nat×AV)):List FactM->List (Nat×AV)
 |[]=>b
 |⟨_,d,x,_,_,g⟩::r=>zrn fs d x (allV fs G b r) (relG G g)
def zkg(b:List (Nat×Blk)):List FactM->List (Nat×Blk)
 |[]=>b
 |⟨_,_,_,nb,_,_⟩::r=>zj6 nb (zkg b r)
def stR(st:St)(hid:List Nat)(m:Nat)(fs:List FactM):St:=⟨selR m (rmK hid st.t) fs,zkf m st.h fs⟩
def stV(st:St)(hid:List Nat)(m:Nat)(fs:List FactM)(G:List (Nat×Bool)):St:=⟨selV fs G m (rmK hid st.t) fs,zkf m st.h fs⟩
def zgX(st:St)(hid:List Nat)(fs:List FactM):St:=⟨allV fs [] (rmK hid st.t) fs,zkg st.h fs⟩
def zoB(n:Nat):∀fs:List FactM,(toL n fs).map (·.i)=fs.map (·.i)
 |[]=>rfl
 |f::r=>by simp[toL,zoB n r]
def zro{n m:Nat}{b:List (Nat×AV)}:∀{fs:List FactM},(∀f∈fs,f.i<n)->selT (bits n m) b (toL n fs)=selR m b fs
 |[],_=>rfl
 |f::r,h=>by
  have ih:=zro (b:=b) (m:=m) (fs:=r) λf hf=>h f (by simp[hf])
  have h0:=h f (by simp);obtain⟨i,d,x,nb,mm,g⟩:=f;simp only[toL,selT,selR,ih];rw[zhj h0]
def zrp{n m:Nat}{b:List (Nat×Blk)}:∀{fs:List FactM},(∀f∈fs,f.i<n)->selH (bits n m) b (toL n fs)=zkf m b fs
 |[],_=>rfl
 |f::r,h=>by
  have ih:=zrp (b:=b) (m:=m) (fs:=r) λf hf=>h f (by simp[hf])
  have h0:=h f (by simp);obtain⟨i,d,x,nb,mm,g⟩:=f;simp only[toL,selH,zkf,ih];rw[zhj h0]
def zrq{st:St}{hid:List Nat}{n m:Nat}{fs:List FactM}(h:∀f∈fs,f.i<n):stOf st hid (bits n m) (toL n fs)=stR st hid m fs:=by
 unfold stOf stR;rw[zro h,zrp h]
def zmv{n:Nat}{az:List Nat}{b:List (Nat×AV)}:∀{fs:List FactM},(∀f∈fs,memb f.i az=true)->selT az b (toL n fs)=allR b fs
 |[],_=>rfl
 |f::r,h=>by
  have ih:=zmv (n:=n) (b:=b) (az:=az) (fs:=r) λf hf=>h f (by simp[hf])
  have h0:=h f (by simp);obtain⟨i,d,x,nb,mm,g⟩:=f;have h0:memb i az=true:=h0;simp only[toL,selT,allR,ih,h0,cond_true]
def zmw{n:Nat}{az:List Nat}{b:List (Nat×Blk)}:∀{fs:List FactM},(∀f∈fs,memb f.i az=true)->selH az b (toL n fs)=zkg b fs
 |[],_=>rfl
 |f::r,h=>by
  have ih:=zmw (n:=n) (b:=b) (az:=az) (fs:=r) λf hf=>h f (by simp[hf])
  have h0:=h f (by simp);obtain⟨i,d,x,nb,mm,g⟩:=f;have h0:memb i az=true:=h0;simp only[toL,selH,zkg,ih,h0,cond_true]
inductive LeT(I:Im)(ρ:Nat->Value):List (Nat×AV)->List (Nat×AV)->Prop
 |refl(l:List (Nat×AV)):LeT I ρ l l
 |cons{t:Nat}{x y:AV}{l l':List (Nat×AV)}(hx:∀v,RV I ρ x v->RV I ρ y v)(h:LeT I ρ l l'):LeT I ρ ((t,x)::l) ((t,y)::l')
theorem LeT.lk{I:Im}{ρ:Nat->Value}{l l':List (Nat×AV)}(h:LeT I ρ l l'):∀{t:Nat}{y:AV},Rse.lk l' t=some y->∃x,Rse.lk l t=some x/\∀v,RV I ρ x v->RV I ρ y v:=by
 induction h with
 |refl l=>exactλ{t y}e=>⟨y,e,λv h=>h⟩
 |@cons t0 x y l l' hx _ ih=>
  intro t z e;rw[yq]at e⊢;cases Z:t0.beq t with
  |true=>rw[Z]at e;simp at e;subst e;exact⟨x,by simp,hx⟩
  |false=>rw[Z]at e;simp at e;obtain⟨x',V,U⟩:=ih e;exact⟨x',by simpa using V,U⟩
theorem LeT.consT{I:Im}{ρ:Nat->Value}{d:Option Nat}{x y:AV}{l l':List (Nat×AV)}(hx:∀v,RV I ρ x v->RV I ρ y v)(h:LeT I ρ l l'):LeT I ρ (Rse.consT d x l) (Rse.consT d y l'):=by
 cases d with
 |none=>exact h
 |some d=>exact .cons hx h
def Suf(r fs:List FactM):Prop:=∀g:List (Nat×Bool),(∀e∈g,∃f'∈r,f'.i=e.1)->zi r g=zi fs g
def Suf.tl{f:FactM}{r fs:List FactM}(h:Suf (f::r) fs)(T:WF (f::r)):Suf r fs:=λg V=>by
 rw[←h g λe he=>by obtain⟨f',Z,U⟩:=V e he;exact⟨f',by simp[Z],U⟩];exact(zjj λe he=>by obtain⟨f',Z,U⟩:=V e he;have:=T.1 f' Z;omega).symm
def zoC{I:Im}{ρ:Nat->Value}{fs:List FactM}{G:List (Nat×Bool)}{m:Nat}{b:List (Nat×AV)}(V:zi fs G=true):∀{r:List FactM},WF r->Suf r fs->LeT I ρ (selR m b r) (selV fs G m b r)
 |[],_,_=>.refl _
 |f::r,Z,hs=>by
  have ih:=zoC (I:=I) (ρ:=ρ) (m:=m) (b:=b) V Z.2.2 (hs.tl Z);have U:zi r f.g=zi fs f.g:=(hs.tl Z) f.g Z.2.1;obtain⟨i,d,x,nb,mm,g⟩:=f;simp only[selR,selV,zmu];cases tb m i with
  |true=>exact .consT (λv hv=>zoA V (by rw[←U];exact hv)) ih
  |false=>exact ih
def zlr{I:Im}{ρ:Nat->Value}{fs:List FactM}{G:List (Nat×Bool)}{b:List (Nat×AV)}(V:zi fs G=true):∀{r:List FactM},WF r->Suf r fs->LeT I ρ (allR b r) (allV fs G b r)
 |[],_,_=>.refl _
 |f::r,Z,hs=>by
  have ih:=zlr (I:=I) (ρ:=ρ) (b:=b) V Z.2.2 (hs.tl Z);have U:zi r f.g=zi fs f.g:=(hs.tl Z) f.g Z.2.1;obtain⟨i,d,x,nb,mm,g⟩:=f;simp only[allR,allV,zmu];exact .consT (λv hv=>zoA V (by rw[←U];exact hv)) ih
def Rel.view{C:Ctx}{st st':St}{g:Gh}{a:Act}{w:World}(h:Rel C st g a w)(Z:st'.h=st.h)(ht:LeT g.I g.ρ st.t st'.t):Rel C st' g a w:=
 Rel.slots h Z λt x hx=>by obtain⟨y,V,U⟩:=ht.lk hx;exact U _ (h.tmps t y V)
def Rel.selV{C:Ctx}{st:St}{hid:List Nat}{m:Nat}{fs:List FactM}{G:List (Nat×Bool)}{g:Gh}{a:Act}{w:World}(Z:WF fs)(V:zi fs G=true)(h:Rel C (stR st hid m fs) g a w):Rel C (stV st hid m fs G) g a w:=
 h.view rfl (zoC V Z λ_ _=>rfl)
def zoD:FactM->FactM->Bool
 |⟨_,d,x,nb,m,_⟩,⟨i',d',x',nb',_,_⟩=>
  (match d,d' with|some d,some d'=>!(d.beq d')|_,_=>true)&&
  (match nb with|some (k,_)=>x'.fr k&&nbFr nb' k|none=>true)&&
  (match nb' with|some (k,_)=>tb m i'||(x.fr k&&nbFr nb k)|none=>true)
def okFM(st:St)(hid:List Nat):List FactM->Bool
 |[]=>true
 |⟨i,d,x,nb,m,g⟩::r=>(match d with|some d=>memb d hid|none=>true)&&nbOk st nb&&r.all (zoD ⟨i,d,x,nb,m,g⟩)&&okFM st hid r
def zti(c:Bool)(g:List (Nat×Bool))(x:AV)(k:Nat):(optV c g x).fr k=x.fr k:=by cases g<;>rfl
def zoE{n:Nat}:∀{fs:List FactM}{F:Fact},F∈toL n fs->∃f∈fs,∃c,F=⟨f.i,f.d,optV c f.g f.x,f.nb,bits n f.m⟩
 |[],F,h=>by simp[toL]at h
 |f::r,F,h=>by
  rcases jZ.1 (show F∈_::toL n r from h)with e|Z
  ·exact⟨f,by simp,_,e⟩
  ·obtain⟨f',V,c,U⟩:=zoE Z;exact⟨f',by simp[V],c,U⟩
def zrr{st:St}{hid:List Nat}{n:Nat}:∀{fs:List FactM},(∀f∈fs,f.i<n)->okFM st hid fs=true->okF st hid (toL n fs)=true
 |[],_,_=>rfl
 |f::r,h,V=>by
  simp only[okFM,j7]at V;obtain⟨⟨⟨T,N⟩,U⟩,J⟩:=V;simp only[toL,okF,j7];refine⟨⟨⟨T,N⟩,?_⟩,zrr (λf hf=>h f (by simp[hf])) J⟩;rw[jB]at U⊢;intro F I;obtain⟨f0,Z,c,rfl⟩:=zoE I;have:=U f0 Z;have h0:=h f0 (by simp[Z]);obtain⟨i,d,x,nb,m,g⟩:=f;obtain⟨i',d',x',nb',m',g'⟩:=f0;unfold zoD at this;unfold zeO;simp only[zti,zhj h0];simp only[j7]at this⊢;refine⟨this.1,?_⟩;cases nb' with
  |none=>simp
  |some p=>exact this.2
def zcv:List FactM->Nat->List (Nat×Bool)
 |[],_=>[]
 |⟨i,_,_,_,_,g⟩::r,j=>bif i.beq j then g else zcv r j
def hasI:List FactM->Nat->Bool
 |[],_=>false
 |⟨i,_,_,_,_,_⟩::r,j=>i.beq j||hasI r j
def zoF:∀{fs:List FactM}{j:Nat},hasI fs j=true->∃f∈fs,f.i=j
 |[],j,h=>by simp[hasI]at h
 |⟨i,d,x,nb,m,g⟩::r,j,h=>by
  simp only[hasI,wB,Nat.beq_eq]at h;rcases h with h|h
  ·exact⟨_,List.mem_cons_self,h⟩
  ·obtain⟨f,Z,V⟩:=zoF h;exact⟨f,by simp[Z],V⟩
def zc7(fs:List FactM):List (Nat×Bool)->Bool
 |[]=>true
 |(j,_)::r=>hasI fs j&&zc7 fs r
def zaW{fs:List FactM}:∀{g:List (Nat×Bool)},zc7 fs g=true->∀e∈g,∃f'∈fs,f'.i=e.1
 |[],_,e,he=>by simp at he
 |(j,w)::r,h,e,he=>by
  simp only[zc7,j7]at h;rcases jZ.1 he with rfl|he
  ·exact zoF h.1
  ·exact zaW h.2 e he
def znj(ops:Array Oper)(ms:List Nat):Bool:=(List.range ops.size).all λi=>zeN ops i (bits ops.size (ms.getD i 0))
def zhz{C:Ctx}{st:St}{g:Gh}{a:Act}{w:World}{ops:Array Oper}{i t:Nat}{b c0:Bool}{g0:List (Nat×Bool)}(hr:Rel C st g a w)(hi:(ops[i]?).bind (·.dst)=some t)(Z:lk st.t t=some (optV c0 g0 (.bool b)))(h0:g0=[]->c0=true):yielded ops a.tmps i=if c0=true then some b else none:=by
 have hv:=hr.tmps t _ Z
 have hv:RV g.I g.ρ (.opt c0 (.bool b)) (a.tmps.getD t undef):=by
  cases g0 with
  |nil=>rw[h0 rfl];exact .opt _ _ _ (λ_=>hv) (λh=>by cases h)
  |cons e r=>exact hv
 obtain⟨V,U⟩:=zh9 hv;cases c0 with
 |true=>
  have e:=zr (V rfl)
  have:a.tmps[t]? =some (.bool b):=by
   simp only[jI]at e;cases h:a.tmps[t]? with
   |none=>rw[h]at e;simp[undef]at e
   |some u=>rw[h]at e;simpa using e
  simp[yielded,hi,this]
 |false=>
  have e:=U rfl
  have:a.tmps[t]? =some (.tuple #[])\/a.tmps[t]? =none:=by
   simp only[jI]at e;cases h:a.tmps[t]? with
   |none=>exact .inr rfl
   |some u=>rw[h]at e;exact .inl (by rw[show u=.tuple #[]from e])
  rcases this with h|h<;>simp[yielded,hi,h]
inductive ChM(P:Program)(C:Ctx)(ops:Array Oper)(ms:List Nat)(st:St)(hid:List Nat)(Q:Exit->St->Prop):Nat->List FactM->Prop
 |step{i m:Nat}{fs:List FactM}{o:Oper}{x:AV}{nb:Option (Nat×Blk)}(hm:ms[i]? =some m)(ho:ops[i]? =some o)(hg:o.guard=none)(hs:yA P C o.op o.type (stV st hid m fs []) x nb)(hd:dOk C.n o.dst=true)(h:ChM P C ops ms st hid Q (i+1) (⟨i,o.dst,x,nb,m,[]⟩::fs)):ChM P C ops ms st hid Q i fs
 |guard{i m:Nat}{fs:List FactM}{o:Oper}{x:AV}{gi t:Nat}{want b c0:Bool}{g0:List (Nat×Bool)}(hm:ms[i]? =some m)(ho:ops[i]? =some o)(hg:o.guard=some (gi,want))(hi:(ops[gi]?).bind (·.dst)=some t)(hb:lk (stR st hid m fs).t t=some (optV c0 g0 (.bool b)))
  (hc0:zi fs g0=c0)(hcd:zaQ fs gi want=(b==want))(hg0:∀e∈(gi,want)::g0,∃f'∈fs,f'.i=e.1)(hs:zi fs ((gi,want)::g0)=true->yA P C o.op o.type (stV st hid m fs ((gi,want)::g0)) x none)(hd:dOk C.n o.dst=true)
  (h:ChM P C ops ms st hid Q (i+1) (⟨i,o.dst,x,none,m,(gi,want)::g0⟩::fs)):ChM P C ops ms st hid Q i fs
 |late{i m:Nat}{fs:List FactM}{o1 oe o2:Oper}(e:Nat)(hm:ms[i]? =some m)(hl:ops.toList.drop i=[o1,o2])(hoe:ops[e]? =some oe)(hg:(fs.all λf=>f.g.isEmpty)=true)(hok:okFM st hid fs=true)(hf:zdi ops i e (bits ops.size m)=true)
  (hA:Ex P C ops [o1,o2] (zgX st hid fs) Q)(hB:Ex P C ops [o1,oe,o2] (zgX st hid (fs.filter λf=>!(f.i==e))) Q):ChM P C ops ms st hid Q i fs
 |tail{i:Nat}{fs:List FactM}(hok:okFM st hid fs=true)(hf:zeP ops i (bits ops.size (ms.getD i 0))=true)(h:Ex P C ops (ops.toList.drop i) (zgX st hid fs) Q):ChM P C ops ms st hid Q i fs
def zmx{ops:Array Oper}{i:Nat}{o:Oper}(h:ops[i]? =some o):i<ops.size:=by
 rcases wA i ops.size with hl|hl
 ·exact hl
 ·simp[uT hl]at h
def zkh{ops:Array Oper}{ms:List Nat}{i m:Nat}(h:znj ops ms=true)(hi:i<ops.size)(hm:ms[i]? =some m):zeN ops i (bits ops.size m)=true:=by
 have:=jB.1 h i (uW.2 hi)
 rwa[j8,hm]at this
def zhk{fs:List FactM}:∀f∈fs,memb f.i (fs.map (·.i))=true:=λf hf=>zm.2 (jW.2 ⟨f,hf,rfl⟩)
def Ex.view{P:Program}{C:Ctx}{ops:Array Oper}{l:List Oper}{st st':St}{Q:Exit->St->Prop}(h:Ex P C ops l st' Q)(hv:∀g a w,Rel C st g a w->Rel C st' g a w):Ex P C ops l st Q:=λg a w hr=>h g a w (hv g a w hr)
def zia{f:FactM}{fs:List FactM}{i:Nat}(hi:f.i=i)(Z:∀f'∈fs,f'.i<i)(U:∀e∈f.g,∃f'∈fs,f'.i=e.1)(T:WF fs):WF (f::fs):=⟨λf' V=>by rw[hi];exact Z f' V,U,T⟩
def zib{f:FactM}{fs:List FactM}{i:Nat}(hi:f.i=i)(Z:∀f'∈fs,f'.i<i):∀f'∈f::fs,f'.i<i+1:=λf' V=>by
 rcases jZ.1 V with rfl|h
 ·omega
 ·have:=Z f' h;omega
def zgc{C:Ctx}{st:St}{hid az:List Nat}{n:Nat}{fs:List FactM}{g:Gh}{a:Act}{w:World}(Z:∀f∈fs,memb f.i az=true)(V:WF fs)(h:Rel C (stOf st hid az (toL n fs)) g a w):Rel C (zgX st hid fs) g a w:=by
 unfold stOf at h;rw[zmv Z,zmw Z]at h;exact h.view rfl (zlr rfl V λ_ _=>rfl)
def zoG{n e:Nat}:∀{fs:List FactM},(fs.all λf=>f.g.isEmpty)=true->noF e (toL n fs)=toL n (fs.filter λf=>!(f.i==e))
 |[],_=>rfl
 |f::r,h=>by
  simp only[vW,j7,List.isEmpty_iff]at h;have ih:=zoG (n:=n) (e:=e) (fs:=r) h.2;unfold noF at ih⊢;simp only[toL,u5];by_cases Z:f.i=e
  ·simp only[Z,beq_self_eq_true,xK,xS,if_false];exact ih
  ·have V:(f.i==e)=false:=by simpa using Z
   simp only[V,Bool.not_false,if_true,toL,ih,h.1,optV]
def zki{p:FactM->Bool}:∀{fs:List FactM},(fs.all λf=>f.g.isEmpty)=true->WF fs->WF (fs.filter p)
 |[],_,_=>trivial
 |f::r,h,V=>by
  simp only[vW,j7,List.isEmpty_iff]at h;have ih:=zki (p:=p) (fs:=r) h.2 V.2.2;rw[u5];split
  ·exact⟨λf' Z=>V.1 f' (wO.1 Z).1,λe he=>by rw[h.1]at he;simp at he,ih⟩
  ·exact ih
def ChM.chain{P:Program}{C:Ctx}{ops:Array Oper}{ms:List Nat}{st:St}{hid:List Nat}{Q:Exit->St->Prop}(ha:znj ops ms=true){i:Nat}{fs:List FactM}(h:ChM P C ops ms st hid Q i fs):(∀f∈fs,f.i<i)->i<=ops.size->WF fs->Chain P C ops st hid Q i (toL ops.size fs):=by
 induction h with
 |@step i m fs o x nb hm ho J hs hd _ ih=>
  intro Z I N;have G:∀f∈fs,f.i<ops.size:=λf hf=>by have:=Z f hf;omega
  refine .gen rfl ⟨zkh ha (zmx ho) hm,hd,λg a w hr K E=>?_⟩ (ih (zib rfl Z) (by have:=zmx ho;omega) (zia rfl Z (λe he=>by simp at he) N));have hr:Rel C (stR st hid m fs) g a w:=by rw[←zrq G];exact hr
  simp only[wpOpIn,ho];rw[j3 (by simp[Region.wanted,J])];exact zau (hs g a w o.dst o.pos o.after o.guard (hr.selV N rfl) K E)
 |@guard i m fs o x gi t want b c0 g0 hm ho J hi hb H xT x4 hs hd _ ih=>
  intro Z I N;have G:∀f∈fs,f.i<ops.size:=λf hf=>by have:=Z f hf;omega
  refine .gen rfl ⟨zkh ha (zmx ho) hm,hd,λg a w hr K E=>?_⟩ (ih (zib rfl Z) (by have:=zmx ho;omega) (zia rfl Z x4 N));have hr:Rel C (stR st hid m fs) g a w:=by rw[←zrq G];exact hr
  have hy:=zhz hr hi hb (λe=>by rw[e]at H;exact H.symm);have T:zi fs ((gi,want)::g0)=((b==want)&&c0):=by rw[zbk,xT,H]
  simp only[wpOpIn,ho];cases U:zi fs ((gi,want)::g0)with
  |true=>
   rw[T,j7]at U;rw[j3 (by simp only[Region.wanted,J,hy,U.2,if_true];simpa using U.1)];refine zau (hs (by rw[T,U.1,U.2];rfl) g a w o.dst o.pos o.after o.guard (hr.selV N (by rw[T,U.1,U.2];rfl)) _ λv w' g' h2 h3 h4 h5=>E v w' g' h2 (.opt _ _ _ (λ_=>h3) λe=>?_) h4 h5);rw[T,U.1,U.2]at e;cases e
  |false=>
   rw[j4 (λV=>by
    simp only[Region.wanted,J,hy]at V;rw[T]at U;cases hc:c0 with
    |true=>
     rw[hc]at U V;have h1:(b==want)=true:=by simpa using V
     rw[h1]at U;cases U
    |false=>rw[hc]at V;simp at V)]
   exact⟨λf _=>C.F_fn f,E undef w g (Add.refl _ g w) (.opt _ _ _ (λe=>by rw[U]at e;cases e) λ_=>rfl) ⟨hr.sat.im,hr.sat.ob⟩ (λ_ _ h=>by cases h)⟩
 |@late i m fs o1 oe o2 e hm hl x3 J hok hf hA hB=>
  intro Z I N;have G:∀f∈fs,f.i<ops.size:=λf hf=>by have:=Z f hf;omega
  refine .late e (bits ops.size m) hl x3 (zrr G hok) hf ?_ ?_
  ·rw[zoB];exact hA.view λg a w hr=>zgc zhk N hr
  ·rw[zoG J,zoB];exact hB.view λg a w hr=>zgc zhk (zki J N) hr
 |tail hok hf hx=>
  intro Z I N;refine .tail _ (zrr (λf hf=>by have:=Z f hf;omega) hok) hf ?_;rw[zoB];exact hx.view λg a w hr=>zgc zhk N hr
section
variable{P:Program}{C:Ctx}{st:St}{ty:TypeId}{Q:Exit->St->Prop}{ops:Array Oper}{ms:List Nat}{hid:List Nat}{i m:Nat}{fs:List FactM}{o:Oper}{x:AV}{nb:Option (Nat×Blk)}
def yW{id:Nat}{l:List Oper}(hid ms:List Nat)(hm:P.follows .mixedOrders=true)(h:ChM P C l.toArray ms st hid Q 0 [])(he:zfi l.toArray=true:=by kernel_rfl)(Z:znj l.toArray ms=true:=by kernel_rfl):X P C (.region id l.toArray true) st Q:=
 zwP hid hm he (h.chain Z (λf hf=>by simp at hf) (w7 _) trivial)
def yb{d:Nat}(h:ChM P C ops ms st hid Q (i+1) (⟨i,some d,x,none,m,[]⟩::fs))(hm:ms[i]? =some m:=by exact rfl)(ho:ops[i]? =some o:=by exact rfl)(V:o.guard=none:=by exact rfl)(Z:o.dst=some d:=by exact rfl)(hs:Pur P C o.op o.type (stV st hid m fs []) x:=by exact yJ)(U:d.blt C.n=true:=by exact rfl):ChM P C ops ms st hid Q i fs:=
 .step hm ho V hs.stepA (by rw[Z];exact U) (by rw[Z];exact h)
def yL{d:Nat}{f:FuncId}{caps xs:List AV}{r:AV}{fop:Operand}{args:Array Operand}{ts:Array TypeId}(U:Fn P f (xs++caps) r)(h:ChM P C ops ms st hid Q (i+1) (⟨i,some d,r,none,m,[]⟩::fs))(hm:ms[i]? =some m:=by exact rfl)(ho:ops[i]? =some o:=by exact rfl)(T:o.guard=none:=by exact rfl)(Z:o.dst=some d:=by exact rfl)
 (V:o.op=.call {callee:=.value fop,args:=args,argTypes:=ts}:=by exact rfl)(hf:ev (stV st hid m fs []) fop=some (.fn f caps):=by exact rfl)(hx:evs (stV st hid m fs []) args.toList=some xs:=by exact rfl)(N:AV.nm.nmL (xs++caps)=true:=by exact rfl)(J:d.blt C.n=true:=by exact rfl):ChM P C ops ms st hid Q i fs:=
 .step hm ho T (by rw[V];exact zT hf hx N (LeL.refl _) U) (by rw[Z];exact J) (by rw[Z];exact h)
def ChM.gi{d gi t:Nat}{want b c:Bool}{g0:List (Nat×Bool)}{p n:Prop}(h:ChM P C ops ms st hid Q (i+1) (⟨i,some d,x,none,m,(gi,want)::g0⟩::fs))(hm:ms[i]? =some m:=by exact rfl)(ho:ops[i]? =some o:=by exact rfl)(hg:o.guard=some (gi,want):=by exact rfl)(hod:o.dst=some d:=by exact rfl)(hi:(ops[gi]?).bind (·.dst)=some t:=by exact rfl)
 (hch:zcv fs gi=g0:=by first|exact(rfl:_=[])|exact(rfl:_=[_])|exact(rfl:_=[_,_])|exact(rfl:_=[_,_,_]))(hb:lk (stR st hid m fs).t t=some (optV (zi fs g0) g0 (.bool b)):=by exact rfl)(hcd:zaQ fs gi want=(b==want):=by exact rfl)(hg0:zc7 fs ((gi,want)::g0)=true:=by exact rfl)
 (hcs:zi fs ((gi,want)::g0)=c:=by first|exact(rfl:_=((_:Bool)==_))|exact(rfl:_=(((_:Bool)==_)&&((_:Bool)==_)))|exact(rfl:_=(((_:Bool)==_)&&(((_:Bool)==_)&&((_:Bool)==_)))))(bp:BP c p n:=by exact inferInstance)(hs:p->Pur P C o.op o.type (stV st hid m fs ((gi,want)::g0)) x:=by intro hgd;exact yJ)(hd:d.blt C.n=true:=by exact rfl):ChM P C ops ms st hid Q i fs:=
 .guard hm ho hg hi hb rfl hcd (zaW hg0) (λe=>(hs (bp.t (hcs.symm.trans e))).stepA) (by rw[hod];exact hd) (by rw[hod];exact h)
def ChM.gs{d gi t:Nat}{want b:Bool}{g0:List (Nat×Bool)}(hs:yA P C o.op o.type (stV st hid m fs ((gi,want)::g0)) x none)(h:ChM P C ops ms st hid Q (i+1) (⟨i,some d,x,none,m,(gi,want)::g0⟩::fs))(hm:ms[i]? =some m:=by exact rfl)(ho:ops[i]? =some o:=by exact rfl)(T:o.guard=some (gi,want):=by exact rfl)(Z:o.dst=some d:=by exact rfl)(hi:(ops[gi]?).bind (·.dst)=some t:=by exact rfl)
 (N:zcv fs gi=g0:=by first|exact(rfl:_=[])|exact(rfl:_=[_])|exact(rfl:_=[_,_])|exact(rfl:_=[_,_,_]))(J:lk (stR st hid m fs).t t=some (optV (zi fs g0) g0 (.bool b)):=by exact rfl)(V:zaQ fs gi want=(b==want):=by exact rfl)(U:zc7 fs ((gi,want)::g0)=true:=by exact rfl)
 (I:d.blt C.n=true:=by exact rfl):ChM P C ops ms st hid Q i fs:=
 .guard hm ho T hi J rfl V (zaW U) (λ_=>hs) (by rw[Z];exact I) (by rw[Z];exact h)
def ChM.lt(e:Nat){o1 oe o2:Oper}(V:Ex P C ops [o1,o2] (zgX st hid fs) Q)(U:Ex P C ops [o1,oe,o2] (zgX st hid (fs.filter λf=>!(f.i==e))) Q)(hm:ms[i]? =some m:=by exact rfl)(hl:ops.toList.drop i=[o1,o2]:=by exact rfl)(Z:ops[e]? =some oe:=by exact rfl)(T:(fs.all λf=>f.g.isEmpty)=true:=by exact rfl)
 (hok:okFM st hid fs=true:=by exact rfl)(hf:zdi ops i e (bits ops.size m)=true:=by kernel_rfl):ChM P C ops ms st hid Q i fs:=.late e hm hl Z T hok hf V U
def yF(h:Ex P C ops (ops.toList.drop i) (zgX st hid fs) Q)(hok:okFM st hid fs=true:=by exact rfl)(hf:zeP ops i (bits ops.size (ms.getD i 0))=true:=by kernel_rfl):ChM P C ops ms st hid Q i fs:=.tail hok hf h
def zag{d i t:Nat}{want b:Bool}{rest:List Oper}{op:Op}{pos:String}{af:Array Edge}(h:Ex P C ops rest ⟨(d,x)::st.t,st.h⟩ Q)(hi:(ops[i]?).bind (·.dst)=some t:=by exact rfl)(Z:lk st.t t=some (.bool b):=by exact rfl)(V:(b==want)=true:=by first|assumption|rfl|(simp_all;done)|omega)(hs:Pur P C op ty st x:=by exact yJ)(U:d.blt C.n=true:=by exact rfl):
 Ex P C ops ({dst:=some d,op:=op,type:=ty,pos:=pos,after:=af,guard:=some (i,want)}::rest) st Q:=zq9 hi Z V hs.stepA U rfl h
def zbP{d i t:Nat}{want b:Bool}{rest:List Oper}{op:Op}{pos:String}{af:Array Edge}(h:Ex P C ops rest ⟨(d,.tup [])::st.t,st.h⟩ Q)(hi:(ops[i]?).bind (·.dst)=some t:=by exact rfl)(Z:lk st.t t=some (.bool b):=by exact rfl)(V:(b==want)=false:=by first|assumption|rfl|(simp_all;done)|fail)(U:d.blt C.n=true:=by exact rfl):
 Ex P C ops ({dst:=some d,op:=op,type:=ty,pos:=pos,after:=af,guard:=some (i,want)}::rest) st Q:=zzq hi Z V U h
end
def stF(st:St)(fs:List FactM)(G:List (Nat×Bool)):St:=⟨allV fs G st.t fs,zkg st.h fs⟩
def stFR(st:St)(fs:List FactM):St:=⟨allR st.t fs,zkg st.h fs⟩
def ExF(P:Program)(C:Ctx)(ops:Array Oper)(st:St)(Q:Exit->St->Prop)(i:Nat)(fs:List FactM):Prop:=
 (∀f∈fs,f.i<i)->WF fs->∀g a w,Rel C (stFR st fs) g a w->wpListIn C.F 0 P ops (lift C Q) (ops.toList.drop i) a w
section
variable{P:Program}{C:Ctx}{st:St}{ty:TypeId}{Q:Exit->St->Prop}{ops:Array Oper}{i:Nat}{fs:List FactM}{o:Oper}{x:AV}{nb:Option (Nat×Blk)}
def Rel.stF{C:Ctx}{st:St}{fs:List FactM}{G:List (Nat×Bool)}{g:Gh}{a:Act}{w:World}(Z:WF fs)(V:zi fs G=true)(h:Rel C (stFR st fs) g a w):Rel C (stF st fs G) g a w:=
 h.view rfl (zlr V Z λ_ _=>rfl)
def zmy(st:St)(d:Option Nat)(x:AV)(nb:Option (Nat×Blk)):addSt st d x nb=⟨consT d x st.t,zj6 nb st.h⟩:=by
 cases d<;>cases nb<;>rfl
def ExF.at(i:Nat){l:List Oper}(h:ExF P C ops st Q i [])(hl:ops.toList.drop i=l:=by exact rfl):Ex P C ops l st Q:=λg a w hr=>hl▸h (λf hf=>by simp at hf) trivial g a w hr
def zoH{ops:Array Oper}{i:Nat}{o:Oper}(ho:ops[i]? =some o):ops.toList.drop i=o::ops.toList.drop (i+1):=by
 have Z:=zmx ho;rw[jG (by simpa using Z)];congr 1;rw[jV Z]at ho;simpa using ho
def ExF.step(ho:ops[i]? =some o)(T:o.guard=none)(hs:yA P C o.op o.type (stF st fs []) x nb)(N:dOk C.n o.dst=true)(J:nbOk (stFR st fs) nb=true)(h:ExF P C ops st Q (i+1) (⟨i,o.dst,x,nb,0,[]⟩::fs)):ExF P C ops st Q i fs:=λZ V g a w hr=>by
 rw[zoH ho];refine wpListIn_plain T λK I=>zau<|hs g a w o.dst o.pos o.after o.guard (hr.stF V rfl) K λv w' g' H G U E=>I _ _ ?_
 refine h (zib rfl Z) (zia rfl Z (λe he=>by simp at he) V) g' _ w' ?_;have:=hr.addSt H N J G U.1 U.2 E;rw[zmy]at this;exact this
def ExF.guard{gi t:Nat}{want b c0:Bool}{g0:List (Nat×Bool)}(ho:ops[i]? =some o)(hg:o.guard=some (gi,want))(hi:(ops[gi]?).bind (·.dst)=some t)(hb:lk (stFR st fs).t t=some (optV c0 g0 (.bool b)))
 (T:zi fs g0=c0)(H:zaQ fs gi want=(b==want))(G:∀e∈(gi,want)::g0,∃f'∈fs,f'.i=e.1)(hs:zi fs ((gi,want)::g0)=true->yA P C o.op o.type (stF st fs ((gi,want)::g0)) x none)(hd:dOk C.n o.dst=true)
 (h:ExF P C ops st Q (i+1) (⟨i,o.dst,x,none,0,(gi,want)::g0⟩::fs)):ExF P C ops st Q i fs:=λN hw g a w hr=>by
 rw[zoH ho];have hy:=zhz hr hi hb (λe=>by rw[e]at T;exact T.symm);have U:zi fs ((gi,want)::g0)=((b==want)&&c0):=by rw[zbk,H,T]
 have next:∀g' a' w',Rel C (stFR st (⟨i,o.dst,x,none,0,(gi,want)::g0⟩::fs)) g' a' w'->wpListIn C.F 0 P ops (lift C Q) (ops.toList.drop (i+1)) a' w':=h (zib rfl N) (zia rfl N G hw)
 have put:∀g' v w',Add none g w g' w'->RV g'.I g'.ρ (.opt (zi fs ((gi,want)::g0)) x) v->ImOB g' w'->Rel C (stFR st (⟨i,o.dst,x,none,0,(gi,want)::g0⟩::fs)) g' (a.put o.dst v) w':=λg' v w' E h3 J=>by
  have:=hr.addSt (nb:=none) E hd rfl h3 J.1 J.2 (λ_ _ h=>by cases h);rw[zmy]at this;exact this
 unfold wpListIn;cases V:zi fs ((gi,want)::g0)with
 |true=>
  rw[U,j7]at V;rw[j3 (by simp only[Region.wanted,hg,hy,V.2,if_true];simpa using V.1)];refine zau (hs (by rw[U,V.1,V.2];rfl) g a w o.dst o.pos o.after o.guard (hr.stF hw (by rw[U,V.1,V.2];rfl)) _ λv w' g' E h3 J h5=>next _ _ _ (put g' v w' E (.opt _ _ _ (λ_=>h3) λe=>?_) J));rw[U,V.1,V.2]at e;cases e
 |false=>
  rw[j4 (λZ=>by
   simp only[Region.wanted,hg,hy]at Z;rw[U]at V;cases hc:c0 with
   |true=>
    rw[hc]at V Z;have h1:(b==want)=true:=by simpa using Z
    rw[h1]at V;cases V
   |false=>rw[hc]at Z;simp at Z)]
  exact⟨λf _=>C.F_fn f,next g _ w (put g undef w (Add.refl _ g w) (.opt _ _ _ (λe=>by rw[V]at e;cases e) λ_=>rfl) ⟨hr.sat.im,hr.sat.ob⟩)⟩
def zdK(h:Ex P C ops (ops.toList.drop i) (stF st fs []) Q):ExF P C ops st Q i fs:=λZ V g a w hr=>h g a w (hr.stF V rfl)
def yp{d:Nat}(h:ExF P C ops st Q (i+1) (⟨i,some d,x,none,0,[]⟩::fs))(ho:ops[i]? =some o:=by exact rfl)(V:o.guard=none:=by exact rfl)(Z:o.dst=some d:=by exact rfl)(hs:Pur P C o.op o.type (stF st fs []) x:=by exact yJ)(U:d.blt C.n=true:=by exact rfl):ExF P C ops st Q i fs:=
 .step ho V hs.stepA (by rw[Z];exact U) rfl (by rw[Z];exact h)
def ExF.gi{d gi t:Nat}{want b c:Bool}{g0:List (Nat×Bool)}{p n:Prop}(h:ExF P C ops st Q (i+1) (⟨i,some d,x,none,0,(gi,want)::g0⟩::fs))(ho:ops[i]? =some o:=by exact rfl)(hg:o.guard=some (gi,want):=by exact rfl)(hod:o.dst=some d:=by exact rfl)(hi:(ops[gi]?).bind (·.dst)=some t:=by exact rfl)
 (hch:zcv fs gi=g0:=by first|exact(rfl:_=[])|exact(rfl:_=[_])|exact(rfl:_=[_,_])|exact(rfl:_=[_,_,_]))(hb:lk (stFR st fs).t t=some (optV (zi fs g0) g0 (.bool b)):=by exact rfl)(hcd:zaQ fs gi want=(b==want):=by exact rfl)(hg0:zc7 fs ((gi,want)::g0)=true:=by exact rfl)
 (hcs:zi fs ((gi,want)::g0)=c:=by first|exact(rfl:_=((_:Bool)==_))|exact(rfl:_=(((_:Bool)==_)&&((_:Bool)==_)))|exact(rfl:_=(((_:Bool)==_)&&(((_:Bool)==_)&&((_:Bool)==_)))))(bp:BP c p n:=by exact inferInstance)(hs:p->Pur P C o.op o.type (stF st fs ((gi,want)::g0)) x:=by intro hgd;exact yJ)(hd:d.blt C.n=true:=by exact rfl):ExF P C ops st Q i fs:=
 .guard ho hg hi hb rfl hcd (zaW hg0) (λe=>(hs (bp.t (hcs.symm.trans e))).stepA) (by rw[hod];exact hd) (by rw[hod];exact h)
def ExF.cg{d gi t:Nat}{want b:Bool}{g0:List (Nat×Bool)}{f:FuncId}{caps xs:List AV}{fop:Operand}{args:Array Operand}{ts:Array TypeId}(N:Fn P f (xs++caps) x)(h:ExF P C ops st Q (i+1) (⟨i,some d,x,none,0,(gi,want)::g0⟩::fs))(ho:ops[i]? =some o:=by exact rfl)(J:o.guard=some (gi,want):=by exact rfl)(Z:o.dst=some d:=by exact rfl)(hi:(ops[gi]?).bind (·.dst)=some t:=by exact rfl)
 (I:zcv fs gi=g0:=by first|exact(rfl:_=[])|exact(rfl:_=[_])|exact(rfl:_=[_,_])|exact(rfl:_=[_,_,_]))(H:lk (stFR st fs).t t=some (optV (zi fs g0) g0 (.bool b)):=by exact rfl)(V:zaQ fs gi want=(b==want):=by exact rfl)(U:zc7 fs ((gi,want)::g0)=true:=by exact rfl)
 (T:o.op=.call {callee:=.value fop,args:=args,argTypes:=ts}:=by exact rfl)(hf:ev (stF st fs ((gi,want)::g0)) fop=some (.fn f caps):=by exact rfl)(hx:evs (stF st fs ((gi,want)::g0)) args.toList=some xs:=by exact rfl)(G:AV.nm.nmL (xs++caps)=true:=by exact rfl)(E:d.blt C.n=true:=by exact rfl):ExF P C ops st Q i fs:=
 .guard ho J hi H rfl V (zaW U) (λe=>by rw[T];exact zT hf hx G (LeL.refl _) N) (by rw[Z];exact E) (by rw[Z];exact h)
def ExF.cp{d gi t:Nat}{want b c:Bool}{g0:List (Nat×Bool)}{p n:Prop}{f:FuncId}{caps xs:List AV}{fop:Operand}{args:Array Operand}{ts:Array TypeId}(hc:p->Fn P f (xs++caps) x)(h:ExF P C ops st Q (i+1) (⟨i,some d,x,none,0,(gi,want)::g0⟩::fs))(ho:ops[i]? =some o:=by exact rfl)(hg:o.guard=some (gi,want):=by exact rfl)(hod:o.dst=some d:=by exact rfl)(hi:(ops[gi]?).bind (·.dst)=some t:=by exact rfl)
 (hch:zcv fs gi=g0:=by first|exact(rfl:_=[])|exact(rfl:_=[_])|exact(rfl:_=[_,_])|exact(rfl:_=[_,_,_]))(hb:lk (stFR st fs).t t=some (optV (zi fs g0) g0 (.bool b)):=by exact rfl)(hcd:zaQ fs gi want=(b==want):=by exact rfl)(hg0:zc7 fs ((gi,want)::g0)=true:=by exact rfl)
 (hcs:zi fs ((gi,want)::g0)=c:=by first|exact(rfl:_=((_:Bool)==_))|exact(rfl:_=(((_:Bool)==_)&&((_:Bool)==_)))|exact(rfl:_=(((_:Bool)==_)&&(((_:Bool)==_)&&((_:Bool)==_)))))(bp:BP c p n:=by exact inferInstance)(hop:o.op=.call {callee:=.value fop,args:=args,argTypes:=ts}:=by exact rfl)(hf:ev (stF st fs ((gi,want)::g0)) fop=some (.fn f caps):=by exact rfl)(hx:evs (stF st fs ((gi,want)::g0)) args.toList=some xs:=by exact rfl)(hn:AV.nm.nmL (xs++caps)=true:=by exact rfl)(hd:d.blt C.n=true:=by exact rfl):ExF P C ops st Q i fs:=
 .guard ho hg hi hb rfl hcd (zaW hg0) (λe=>by rw[hop];exact zT hf hx hn (LeL.refl _) (hc (bp.t (hcs.symm.trans e)))) (by rw[hod];exact hd) (by rw[hod];exact h)
def ChM.cg{ms:List Nat}{hid:List Nat}{m:Nat}{d gi t:Nat}{want b:Bool}{g0:List (Nat×Bool)}{f:FuncId}{caps xs:List AV}{fop:Operand}{args:Array Operand}{ts:Array TypeId}(N:Fn P f (xs++caps) x)(h:ChM P C ops ms st hid Q (i+1) (⟨i,some d,x,none,m,(gi,want)::g0⟩::fs))(hm:ms[i]? =some m:=by exact rfl)(ho:ops[i]? =some o:=by exact rfl)(J:o.guard=some (gi,want):=by exact rfl)(Z:o.dst=some d:=by exact rfl)(hi:(ops[gi]?).bind (·.dst)=some t:=by exact rfl)
 (I:zcv fs gi=g0:=by first|exact(rfl:_=[])|exact(rfl:_=[_])|exact(rfl:_=[_,_])|exact(rfl:_=[_,_,_]))(H:lk (stR st hid m fs).t t=some (optV (zi fs g0) g0 (.bool b)):=by exact rfl)(V:zaQ fs gi want=(b==want):=by exact rfl)(U:zc7 fs ((gi,want)::g0)=true:=by exact rfl)
 (T:o.op=.call {callee:=.value fop,args:=args,argTypes:=ts}:=by exact rfl)(hf:ev (stV st hid m fs ((gi,want)::g0)) fop=some (.fn f caps):=by exact rfl)(hx:evs (stV st hid m fs ((gi,want)::g0)) args.toList=some xs:=by exact rfl)(G:AV.nm.nmL (xs++caps)=true:=by exact rfl)(E:d.blt C.n=true:=by exact rfl):ChM P C ops ms st hid Q i fs:=
 .guard hm ho J hi H rfl V (zaW U) (λe=>by rw[T];exact zT hf hx G (LeL.refl _) N) (by rw[Z];exact E) (by rw[Z];exact h)
end
def yz{ι:Type}{C:Ctx}{st:St}{I:ι->List (Nat×AV)}{H:ι->List (Nat×Blk)}{J:ι->Prop}{μ:ι->Nat}{n:Nat}(i':ι)(hJ:J i':=by first|trivial|omega|(refine⟨?_,?_⟩<;>omega))(hm:μ i'<n:=by first|omega|(dsimp only;omega))(hI:Imp C st ⟨I i',H i'⟩:=by exact yd):
 ∃i',Imp C st ⟨I i',H i'⟩/\J i'/\μ i'<n:=⟨i',hI,hJ,hm⟩
end Go.Rse
namespace Go.Rse
open Go Go.RowKit
def zkj(P:Program)(C:Ctx)(rv:List ResultVar)(r:AV)(vs:List Value)(cs:List AV)(hs':List (Nat×Blk))(e:Exit)(st:St):Prop:=
 (e=.normal\/e=.ret)/\∃ts ex,Imp C st ⟨ts,(kN,.hold vs cs)::(hs'++ex)⟩/\RetVs P ⟨ts,(kN,.hold vs cs)::(hs'++ex)⟩ rv r
def zkj.mk{P:Program}{C:Ctx}{rv:List ResultVar}{r:AV}{vs:List Value}{cs:List AV}{Z:List (Nat×Blk)}{e:Exit}{st:St}(ts:List (Nat×AV))(ex:List (Nat×Blk))(he:e=.normal\/e=.ret)(hr:RetVs P ⟨ts,(kN,.hold vs cs)::(Z++ex)⟩ rv r)(hi:Imp C st ⟨ts,(kN,.hold vs cs)::(Z++ex)⟩:=by exact yd):zkj P C rv r vs cs Z e st:=
 ⟨he,ts,ex,hi,hr⟩
def FnO.introX{P:Program}{f:FuncId}{fn:Func}{c:Code}{n:Nat}{az:List AV}{ts:List (Nat×AV)}{rv:List ResultVar}{r:AV}{hs U:List (Nat×Blk)}{kp:List Nat}{cs:List AV}(hc:zak P f=true)(hf:P.funcs[f]? =some fn)(hb:fn.body=some c)(hn:fn.ntmps=n)(x0:fn.results=rv.toArray)
 (w2:zbs 0 az=ts)(v0:az.length<=n)(u4:(hs.all λp=>!(p.1.beq kN))=true)(G:(U.all λp=>!(p.1.beq kN))=true)(v9:kp.mapM (hdr hs)=some cs)(E:kp.mapM (hdr U)=some cs)
 (h:∀g w d vs,X P (C0 n d g w) c ⟨ts,(kN,.hold vs cs)::hs⟩ (zkj P (C0 n d g w) rv r vs cs U)):FnO P f az hs kp r U:=by
 refine⟨hc,λd ρ I O w args V T=>(callsIn_wide (n:=0)).1 (callsIn_of_wp_marks hf hb trivial ?_)⟩;subst w2;have v8:args.length=az.length:=T.1;let C:=C0 n d ⟨ρ,I,O⟩ w
 have xT:Rel C ⟨zbs 0 az,(kN,.hold (kp.map ρ) cs)::hs⟩ ⟨ρ,I,O⟩ {tmps:=args.toArray++Array.replicate (fn.ntmps-args.toArray.size) undef,defers:=[]} w:=by
  refine⟨by simp[hn,C];omega,Dfs.nil _ _ _,λt x hx=>?_,⟨V.im,V.ob,λk B J=>?_⟩,⟨Im.le_refl _,rfl,rfl,rfl,jD _,jD _,λ_ _ _ _=>⟨rfl,rfl⟩,λb y n _ hy=>⟨n,hy⟩⟩⟩
  ·obtain⟨_,H⟩:=zc1 (I:=I) (ρ:=ρ) az 0 t x hx;simp only[vS]at H;have ht:t<args.length:=by rw[v8];exact(j1.1 H).1
   have e:(args.toArray++Array.replicate (fn.ntmps-args.toArray.size) undef).getD t undef=args[t]:=by
    simp[jI,uI,ht]
   rw[e];exact T.2 t x _ H (jA ht)
  ·simp only[yq]at J;cases v5:kN.beq k<;>simp[v5]at J
   ·exact(V.blk k B J).ctx
   ·subst J;exact zgV (g:=⟨ρ,I,O⟩) V v9
 refine wpIn_mono (h _ w d _ _ _ w xT) ?_
 rintro e a w'⟨st,g1,v4,he,ts',ex',x4,x3⟩
 obtain⟨g2,N⟩:=x4 g1 a w' v4
 have x2:LeavesInM Fence.wide 0 P fn a.tmps (λe w'=>∃v ρ' I' O',e=.returned v/\Sat (C0 0 d ⟨ρ,I,O⟩ w) U ⟨ρ',I',O'⟩ w'/\RV I' ρ' r v/\Ext (C0 0 d ⟨ρ,I,O⟩ w) ⟨ρ',I',O'⟩ w'/\∀n∈kp,ρ' n=ρ n) a.defers .returning w':=by
  obtain⟨D,hD,v3,v1⟩:=N.defers;refine zaO (C:=C) x0 x3 rfl (λg3 w3 v Z hv=>?_) D hD.plain v3 v1 ⟨N.size,Dfs.nil _ _ _,N.tmps,N.sat,N.ext⟩
  have x1:Sat (C0 0 d ⟨ρ,I,O⟩ w) U g3 w3:=⟨Z.sat.im,Z.sat.ob,λk B J=>by
   refine(Z.sat.blk k B ?_).ctx
   have:kN.beq k=false:=by
    cases hb:kN.beq k
    ·rfl
    ·have:kN=k:=by simpa using hb
     subst this;rw[zeR G]at J;simp at J
   simp[yq,this,zcA,J]⟩
  have hh:=Z.sat.blk kN (.hold (kp.map ρ) cs) (by simp[yq]);exact⟨v,g3.ρ,g3.I,g3.O,rfl,x1,hv,⟨Z.ext.I,Z.ext.os,Z.ext.tape,Z.ext.output,Z.ext.drawn,Z.ext.size,Z.ext.keep,Z.ext.own⟩,zeQ (ρ:=ρ) x1 E hh⟩
 rcases he with rfl|rfl<;>exact x2
section
variable{P:Program}{C:Ctx}{st:St}{ty:TypeId}{Q:Exit->St->Prop}
def zV{ops:Array Oper}{rest:List Oper}{dst:Option Tmp}{pos:String}{af:Array Edge}{fop:Operand}{args:Array Operand}{ts:Array TypeId}{f:FuncId}{caps xs as':List AV}{hs Z:List (Nat×Blk)}{kp:List Nat}{r:AV}
 (μ:List (Nat×Nat))(h:FnO P f as' hs kp r Z)(G:Ex P C ops rest (zbK st μ hs Z dst r) Q)(hf:ev st fop=some (.fn f caps):=by exact rfl)(hx:evs st args.toList=some xs:=by exact rfl)(hμ:biOk μ=true:=by exact rfl)(T:LeL (xs++caps) (as'.map (AV.ren μ)):=by exact LeL.refl _)(N:as'.all (AV.okN (keys hs))=true:=by exact rfl)(J:r.okN (keys Z)=true:=by exact rfl)
 (I:zaH st μ (keys hs) hs:=by repeat'(first|exact True.intro|refine And.intro ⟨_,_,rfl,rfl,LeB.refl _,rfl⟩ ?_))(V:(Z.all λp=>(fwd μ p.1).isSome&&p.2.okNB (keys Z))=true:=by exact rfl)
 (U:(μ.all λp=>kp.any (·.beq p.1)||(hs.any (·.1.beq p.1)&&!(Z.any (·.1.beq p.1)))||(!(hs.any (·.1.beq p.1))&&st.fr p.2))=true:=by exact rfl)
 (H:(kp.all λn=>hs.any (·.1.beq n))=true:=by exact rfl)(E:dOk C.n dst=true:=by exact rfl):
 Ex P C ops ({dst:=dst,op:=.call {callee:=.value fop,args:=args,argTypes:=ts},type:=ty,pos:=pos,after:=af,guard:=none}::rest) st Q:=zbt μ h hf hx hμ T N J I V U H E G
end
end Go.Rse
namespace Go.Rse
open Go Go.RowKit
def andI(p q:Int):Int:=IntKind.i64.wrap ((BitVec.ofInt 64 p&&&BitVec.ofInt 64 q).toNat:Int)
section
variable{P:Program}{C:Ctx}{st:St}{ty:TypeId}{x y:Operand}{xt yt:TypeId}{k k':IntKind}{p q:Int}
end
end Go.Rse
namespace Go.Rse
open Go Go.RowKit
section plain
variable{α:Type}
def mix(q:Int):List (Int×α)->Nat->Option (Nat×α)
 |[],_=>none
 |p::r,i=>if p.1=q then some (i,p.2)else mix q r (i+1)
def mget(q:Int)(l:List (Int×α)):Option α:=(mix q l 0).map (·.2)
def mput(q:Int)(x:α)(l:List (Int×α)):List (Int×α):=match mix q l 0 with
 |some (i,_)=>l.set i (q,x)
 |none=>l++[(q,x)]
def zgY{q:Int}{d:IntKind}:∀(l:List (Int×α))(es:List MapEntry)(i:Nat),es.length=l.length->(∀(j:Nat)e p,es[j]? =some e->l[j]? =some p->e.key=.int .i64 p.1)→
 (mix q l i=none/\Instr.findNow (.int d) (.int .i64 q) es i=some none)\/∃j e x,mix q l i=some (i+j,x)/\Instr.findNow (.int d) (.int .i64 q) es i=some (some (i+j,e.val))/\es[j]? =some e/\l[j]? =some (q,x)
 |[],[],i,_,_=>.inl ⟨rfl,rfl⟩
 |[],_::_,i,h,_=>by simp at h
 |_::_,[],i,h,_=>by simp at h
 |p::l,e::es,i,hl,J=>by
  have V:e.key=.int .i64 p.1:=J 0 e p rfl rfl;by_cases Z:p.1=q
  ·refine .inr ⟨0,e,p.2,by simp[mix,Z],by simp[Instr.findNow,Instr.sameNow,V,Z],rfl,?_⟩;rw[←Z];rfl
  ·have N:¬q=p.1:=λx=>Z x.symm
   have hs:Instr.sameNow (.int d) (.int .i64 q) e.key=some false:=by rw[V];simp[Instr.sameNow,N]
   rcases zgY (q:=q) (d:=d) l es (i+1) (by simpa using hl) (λj e' p' U T=>J (j+1) e' p' U T)with⟨U,T⟩|⟨j,e',x,U,T,I,H⟩
   ·exact .inl ⟨by simp[mix,Z,U],by simp[Instr.findNow,hs,T]⟩
   ·refine .inr ⟨j+1,e',x,by simp[mix,Z,U];omega,?_,I,H⟩;simp[Instr.findNow,hs,T];omega
end plain
section
variable{P:Program}{C:Ctx}{st:St}{ty:TypeId}{Q:Exit->St->Prop}
def zgd{I:Im}{ρ:Nat->Value}{k:Nat}{v:Value}(h:RV I ρ (.mp k) v):∃b,v=.map (some b)/\ρ k=.map (some b):=by cases h with|mp _ b h=>exact⟨b,rfl,h⟩
def zhl{κ α:Type}(kenc:κ->AV)(venc:α->AV){t:TypeId}{k:Nat}:yA P C (.makeMap t none) ty st (.mp k) (some (k,.mpb kenc venc [])):=
 zae λg a w dst pos af gd hr=>by
  refine⟨.map (some w.heap.size),w.alloc (.map #[] 0),g.nw C.d w.heap.size k (.map (some w.heap.size)),?_,Add.nw (Grow.alloc _ (.map #[] 0)) C.d k _,.mp k _ (by simp[Gh.nw]),ImOB.nw ⟨hr.sat.im,hr.sat.ob⟩ (Grow.alloc _ _) (by simp) C.d k _,λk' B Z=>?_⟩
  ·simp[execOp,Instr.makeMap,run_newObj,Result.andThen]
  ·injection Z with Z;injection Z with e1 e2;subst e1;subst e2;exact⟨w.heap.size, #[],0,by simp[Gh.nw],by simp[Gh.nw],.inl hr.ext.size,heap_alloc_new w _,⟨rfl,rfl,λi e he=>by simp at he⟩,λi e p he V=>by simp at he⟩
def mpOk(P:Program)(t K E:TypeId):Prop:=P.underlying t=some (.map K E)/\∃d,P.underlying K=some (.int d)
def zrs{α:Type}{venc:α->AV}{l:List (Int×α)}{t K E:TypeId}{x y:Operand}{k:Nat}{q:Int}(z0:α)(hx:ev st x=some (.mp k))(G:lk st.h k=some (.mpb (λi:Int=>.int .i64 i) venc l))(hy:ev st y=some (.int .i64 q))
 (ht:mpOk P t K E)(hd:∃d,P.underlying K=some (.int d)/\d=.i64)(hf:∀v k,(venc v).fr k=true)(hz:∃z i,P.info? E=some i/\i.zero=some z/\∀I,RV I noNames (venc z0) z):
 Pur P C (.lookup t x y true) ty st (.tup [venc ((mget q l).getD z0),.bool (mget q l).isSome]):=λg a w dst pos af gd hr=>by
 obtain⟨b,es,ck,h1,h2,h3,J,h5,H⟩:=hr.sat.blk k _ G
 have ex:a.eval x=.map (some b):=by
  obtain⟨b',e1,e2⟩:=zgd (yy hr hx);rw[e1,←e2,h1]
 have ey:=y7 (yy hr hy);obtain⟨d,V,rfl⟩:=hd;obtain⟨z,i,hi,T,N⟩:=hz;have U:∀(j:Nat)e p,es.toList[j]? =some e->l[j]? =some p->e.key=.int .i64 p.1:=λj e p he hp=>y7 (H j e p (by simpa using he) hp).1
 rcases zgY (q:=q) (d:=.i64) l es.toList 0 (by simpa using h5.1) U with⟨m1,m2⟩|⟨j,e,v,m1,m2,m3,m4⟩
 ·refine⟨.tuple #[z,.bool false],?_,?_⟩
  ·simp[execOp,ex,ey,Instr.lookup,run_underlying ht.1,MapKept.run_getObj_map J,MapKept.run_checkKey V (show MapKept.IsKey (.int .i64) (.int .i64 q)from rfl),MapKept.run_findKey V m2,Result.andThen,zeroValue,typeInfo,hi,T]
  ·have e1:(mget q l).getD z0=z0:=by simp[mget,m1]
   have e2:(mget q l).isSome=false:=by simp[mget,m1]
   rw[e1,e2];refine .tup _ [z,.bool false] rfl λj c v Z hv=>?_
   rcases j with _|_|j
   ·simp at Z hv;subst Z;subst hv;exact(N g.I).forget' (hf _)
   ·simp at Z hv;subst Z;subst hv;exact .bool _
   ·simp at Z
 ·simp only[vM]at m1 m2;refine⟨.tuple #[e.val,.bool true],?_,?_⟩
  ·simp[execOp,ex,ey,Instr.lookup,run_underlying ht.1,MapKept.run_getObj_map J,MapKept.run_checkKey V (show MapKept.IsKey (.int .i64) (.int .i64 q)from rfl),MapKept.run_findKey V m2,Result.andThen]
  ·have e1:(mget q l).getD z0=v:=by simp[mget,m1]
   have e2:(mget q l).isSome=true:=by simp[mget,m1]
   rw[e1,e2];refine .tup _ [e.val,.bool true] rfl λj' c u Z hv=>?_
   rcases j' with _|_|j'
   ·simp at Z hv;subst Z;subst hv;exact(H j e (q,v) (by simpa using m3) m4).2.forget' (hf _)
   ·simp at Z hv;subst Z;subst hv;exact .bool _
   ·simp at Z
def zbL{w:World}{b:Nat}{o o':Obj}(h:w.heap[b]? =some o):w.grownBy {w with heap:=w.heap.setIfInBounds b o'} (some b):=
 ⟨rfl,rfl,rfl,by simp,λk V Z=>(MapKept.heap_set h).2 k (λe=>Z (by rw[e]))⟩
def zeX{α:Type}{venc:α->AV}{l:List (Int×α)}{t K E:TypeId}{x y z:Operand}{k:Nat}{q:Int}{u:AV}(v:α)(hx:ev st x=some (.mp k))(hk:lk st.h k=some (.mpb (λi:Int=>.int .i64 i) venc l))(hy:ev st y=some (.int .i64 q))
 (hz:ev st z=some u)(hu:u=venc v)(ht:mpOk P t K E)(hd:∃d,P.underlying K=some (.int d)/\d=.i64)(hf:∀v k,(venc v).fr k=true):
 yC P C (.mapUpdate t x y z) ty none st (putH st k (.mpb (λi:Int=>.int .i64 i) venc (mput q v l))):=λg a w pos af gd hr K' hK=>by
 obtain⟨b,es,ck,h1,G,h3,J,U,h6⟩:=hr.sat.blk k _ hk
 have ex:a.eval x=.map (some b):=by
  obtain⟨b',e1,e2⟩:=zgd (yy hr hx);rw[e1,←e2,h1]
 have ey:=y7 (yy hr hy);have ez:RV g.I noNames (venc v) (a.eval z):=(hu▸yy hr hz).forget' (hf v);obtain⟨d,T,rfl⟩:=hd;have V:∀(j:Nat)e p,es.toList[j]? =some e->l[j]? =some p->e.key=.int .i64 p.1:=λj e p he Z=>y7 (h6 j e p (by simpa using he) Z).1
 have H:MapKept.IsKey (.int .i64) (.int .i64 q):=rfl;rcases zgY (q:=q) (d:=.i64) l es.toList 0 (by simpa using U.1) V with⟨m1,m2⟩|⟨j,e,v0,m1,m2,m3,m4⟩
 ·have er:(Instr.mapUpdate t (.map (some b)) (.int .i64 q) (a.eval z)).run P w=.ok () {w with heap:=w.heap.setIfInBounds b (.map (es.push {key:=.int .i64 q,val:=a.eval z,born:=ck}) (ck+1))}:=by
   simp[Instr.mapUpdate,run_underlying ht.1,MapKept.run_getObj_map J,MapKept.run_checkKey T H,MapKept.run_findKey T m2,MapKept.run_setObj_map _ J,Result.andThen]
  simp only[wp1,execOp,ex,ey,jK,er,j9,jL,zcn];refine hK _ _ _ (hr.modify G h3 (zbL J) (jD _) ⟨b,_,_,h1,G,h3,(MapKept.heap_set J).1,⟨?_,?_,?_⟩,?_⟩)
  ·simp[mput,m1,U.1]
  ·simp[mput,m1,U.2.1]
  ·intro i e he;rw[vT]at he;split at he
   ·next N=>injection he with he;subst he;rw[N];exact U.2.1.trans U.1.symm
   ·exact U.2.2 i e he
  ·intro i e p he Z;simp only[mput,m1]at Z;rw[vT]at he;rw[uP]at Z;by_cases hi:i<es.size
   ·rw[j4 (by omega)]at he;rw[j3 (by omega)]at Z;exact h6 i e p he Z
   ·split at he
    ·next N=>
     injection he with he;subst he;rw[j4 (by omega)]at Z;have:i-l.length=0:=by omega
     rw[this]at Z;simp at Z;subst Z;exact⟨.int _ _,ez⟩
    ·rw[uT (by omega)]at he;simp at he
 ·simp only[vM]at m1 m2;have xT:e.key=.int .i64 q:=V j e _ m3 m4;have hj:es[j]? =some e:=by simpa using m3
  have er:(Instr.mapUpdate t (.map (some b)) (.int .i64 q) (a.eval z)).run P w=.ok () {w with heap:=w.heap.setIfInBounds b (.map (es.modify j λe=>{e with key:=.int .i64 q,val:=a.eval z}) ck)}:=by
   simp[Instr.mapUpdate,run_underlying ht.1,MapKept.run_getObj_map J,MapKept.run_checkKey T H,MapKept.run_findKey T m2,hj,xT,MapKept.run_keyThatStays H,MapKept.run_setObj_map _ J,Result.andThen]
  simp only[wp1,execOp,ex,ey,jK,er,j9,jL,zcn];refine hK _ _ _ (hr.modify G h3 (zbL J) (jD _) ⟨b,_,_,h1,G,h3,(MapKept.heap_set J).1,⟨?_,?_,?_⟩,?_⟩)
  ·simp[mput,m1,U.1]
  ·simp[mput,m1,U.2.1]
  ·intro i e' he;rw[uJ]at he;split at he
   ·next N=>
    subst N;rw[hj]at he;simp at he;subst he;exact U.2.2 j e hj
   ·exact U.2.2 i e' he
  ·intro i e' p he Z;simp only[mput,m1]at Z;rw[uJ]at he;rw[vN]at Z;by_cases hi:j=i
   ·subst hi;rw[j3 rfl]at he Z;rw[hj]at he;simp at he;subst he;split at Z
    ·injection Z with Z;subst Z;exact⟨.int _ _,ez⟩
    ·simp at Z
   ·rw[j4 hi]at he Z;exact h6 i e' p he Z
end
end Go.Rse
namespace Go.Rse
open Go Go.RowKit
section
variable{P:Program}{C:Ctx}{st:St}{Q:Exit->St->Prop}{ty:TypeId}
def yi{ts:List (Nat×AV)}{hs:List (Nat×Blk)}(Z:impT st ts:=by
 repeat'(first|exact True.intro|(refine And.intro ⟨_,rfl,?_⟩ ?_;(first|exact LeV.refl _|exact LeV.any _|exact LeB.refl _|(refine LeV.eq ?_;simp;done)|(refine LeV.eq ?_;congr 1;omega)|(refine LeV.eq ?_;dsimp only;congr 1;omega)|(refine LeV.eq (j5 (AV.int _) ?_);omega)|exact LeV.nils _|(refine LeV.eq ?_;congr 1<;>assumption)|(refine LeV.eq ?_;assumption)))))(V:impH st hs:=by
 repeat'(first|exact True.intro|(refine And.intro ⟨_,rfl,?_⟩ ?_;(first|exact LeB.refl _|exact LeB.row (by assumption)|(refine LeB.eq ?_;congr 1<;>assumption)|(refine LeB.eq ?_;congr 1;omega)|(refine LeB.eq ?_;congr 1;simp only[cond_true,cond_false];omega))))):Imp C st ⟨ts,hs⟩:=Imp.of Z V
def zbM{ops:Array Oper}{ms:List Nat}{hid:List Nat}{i m:Nat}{fs:List FactM}(e:Nat)(stJ:St){o1 oe o2:Oper}(U:∀Q',Ex P C ops [] stJ Q'->Ex P C ops [o1,o2] (zgX st hid fs) Q')(T:∀Q',Ex P C ops [] stJ Q'->Ex P C ops [o1,oe,o2] (zgX st hid (fs.filter λf=>!(f.i==e))) Q')(V:Ex P C ops [] stJ Q)
 (hm:ms[i]? =some m:=by exact rfl)(hl:ops.toList.drop i=[o1,o2]:=by exact rfl)(Z:ops[e]? =some oe:=by exact rfl)(N:(fs.all λf=>f.g.isEmpty)=true:=by exact rfl)
 (hok:okFM st hid fs=true:=by exact rfl)(hf:zdi ops i e (bits ops.size m)=true:=by kernel_rfl):ChM P C ops ms st hid Q i fs:=.late e hm hl Z N hok hf (U Q V) (T Q V)
def zb1{x y:Code}(stJ:St)(h:X P C y stJ Q->X P C x st (zdH (λst'=>X P C y st' Q) Q))(hJ:X P C y stJ Q):X P C (.seq x y) st Q:=yf (h hJ)
def zpg(A X B cs:List AV)(j:Nat)(h:j+cs.length<=X.length):setAt (A++(X++B)) (A.length+j) cs=A++(setAt X j cs++B):=by
 unfold setAt
 have t1:(A++(X++B)).take (A.length+j)=A++X.take j:=by
  rw[List.take_length_add_append,wP (by omega)]
 have t2:(A++(X++B)).drop (A.length+j+cs.length)=X.drop (j+cs.length)++B:=by
  rw[uU,List.drop_length_add_append,vJ h]
 rw[t1,t2];simp only[v7]
def zrt{α:Type}{enc:α->List AV}{s:Nat}(he:∀x,(enc x).length=s){l:List α}{i j:Nat}{x x':α}{cs:List AV}(hx:l[i]? =some x)(V:j+cs.length<=s)(U:enc x'=setAt (enc x) j cs):
 (l.set i x').flatMap enc=setAt (l.flatMap enc) (i*s+j) cs:=by
 obtain⟨hi,ex⟩:=j1.1 hx
 have hl:l.set i x'=l.take i++([x']++l.drop (i+1)):=by
  rw[List.set_eq_take_append_cons_drop,j3 hi];simp
 have Z:l=l.take i++([x]++l.drop (i+1)):=by
  conv=>lhs;rw[←wD i l,jG hi,ex]
  rfl
 have T:((l.take i).flatMap enc).length=i*s:=by rw[zG _ (λ_ x _=>he x),jM,xQ (by omega)]
 have e1:l.flatMap enc=(l.take i).flatMap enc++(enc x++(l.drop (i+1)).flatMap enc):=by
  conv=>lhs;rw[Z]
  simp only[vV,u6,List.flatMap_nil,wC]
 rw[hl,e1,←T,zpg _ _ _ _ _ (by rw[he];exact V),←U];simp only[vV,u6,List.flatMap_nil,wC]
def Rel.row_writeC{g:Gh}{a:Act}{w:World}(hr:Rel C st g a w){α:Type}{enc:α->List AV}{l l':List α}{E:TypeId}{k s p b:Nat}{cs:List AV}{vs:List Value}(hk:lk st.h k=some (.row enc l E s))(he:∀x,(enc x).length=s)(xT:0<s)
 (U:RVL g.I noNames cs vs)(T:∀u∈vs,u.oneCell'=true)(x4:p+cs.length<=l.length*s)(G:yY (g.ρ k)=some b)(Z:l'.length=l.length)(x3:l'.flatMap enc=setAt (l.flatMap enc) p cs):
 ∃w',(storeCells ⟨b,p,none⟩ vs 0).run P w=.ok () w'/\Rel C (putH st k (.row enc l' E s)) g a w':=by
 obtain⟨xs,hw,h1,h2,h3⟩:=hr.sat.blk k _ hk;rcases hw.2 with⟨hv,_⟩|⟨b',cap,cur,hv,x2,hh,N,x1,J,x0⟩
 ·rw[hv]at G;simp[yY]at G
 ·have:b'=b:=by rw[hv]at G;simpa[yY]using G
  subst this;have v5:vs.length=cs.length:=U.1;have v4:l.length*s<=cap*s:=jT s N;have w2:p+cs.length<=l.length*s:=x4;have v9:=run_storeCells_at (P:=P) b' p E vs 0 cur w hh (by omega) T;refine⟨_,v9,hr.modify (h3 b' (by rw[hv];rfl)).1 (h3 b' (by rw[hv];rfl)).2 zcZ (jD _) ?_⟩;have v8:cur.toList.length=cap*s:=by simpa using J
  have H:=zeS h1 hw.1 h2 xT;have V:=H.setAt U p (by rw[zG l h1];exact w2);rw[←x3]at V
  have hx:List.take (l.length*s) (cur.toList.take (p+0)++vs++cur.toList.drop (p+0+vs.length))=xs.take p++vs++xs.drop (p+vs.length):=by
   rw[←x0];apply uR;intro j;simp only[uN,w4,uP,jE,jM,v8,w9];rw[show min p (cap*s)=p by omega,show min (l.length*s) (cap*s)=l.length*s by omega,show min p (l.length*s)=p by omega];by_cases q0:j<l.length*s
   ·rw[j3 q0];by_cases q1:j<p
    ·simp[q1,show j<p+vs.length by omega,q0]
    ·by_cases q2:j<p+vs.length
     ·simp[q1,q2]
     ·simp[q2,show p+vs.length+(j-(p+vs.length))<l.length*s by omega]
   ·rw[j4 q0];rw[j4 (by omega)];rw[j4 (by omega)]
  refine⟨xs.take p++vs++xs.drop (p+vs.length),⟨?_,.inr ⟨b',cap,(cur.toList.take (p+0)++vs++cur.toList.drop (p+0+vs.length)).toArray,by rw[hv,Z],x2,setRow_heap w b' cur _ E _ hh,by rw[Z];exact N,x1,by simp;omega,by rw[Z];simpa using hx⟩⟩,λi x h=>he x,zbr (λi x h=>he x) V,h3⟩;rw[Z];have:=hw.1;simp;omega
def y8{α:Type}{enc:α->List AV}{l:List α}{E T:TypeId}{x y:Operand}{k s i j:Nat}{u:AV}{ag:Bool}{n:Nat}(x0 x':α)(hx:ev st x=some (.ptr k s i j))(hk:lk st.h k=some (.row enc l E s))(h0:l[i]? =some x0)(he:∀x,(enc x).length=s)(N:0<s)
 (hy:ev st y=some u)(hu:enc x'=setAt (enc x0) j u.cl)(hn:u.cl.length=n)(hj:j+n<=s)(hp:ziW u=true)(J:scL u.cl=true)(hnm:AV.nm.nmL u.cl=true)(ht:tyOk P T ag n=true):yC P C (.store T x y) ty none st (putH st k (.row enc (l.set i x') E s)):=λg a w pos af gd hr K hK=>by
 obtain⟨b,hb,e⟩:=zad (yy hr hx);have Z:=ziX (yy hr hy) hp;have H:RVL g.I noNames u.cl (a.eval y).cells.toList:=Z.forget hnm
 have V:∀v∈(a.eval y).cells.toList,v.oneCell'=true:=λv hv=>by
  obtain⟨q,hq⟩:=jP.1 hv;have U:q<u.cl.length:=by rw[←Z.1];exact(j1.1 hq).1
  exact(zbI (Z.2 q _ v (jA U) hq) (zff J (jA U))).2
 have hi:i<l.length:=(j1.1 h0).1;have xT:i*s+s<=l.length*s:=by rw[←vL];exact jT s hi
 obtain⟨w',h1,h2⟩:=hr.row_writeC (P:=P) (p:=i*s+j) (l':=l.set i x') hk he N H V (by omega) hb (List.length_set ..) (zrt he h0 (by omega) hu);simp only[wp1,execOp,Instr.storeAt,e,Instr.sureAddr,jK,jL,j9,storeVar,y4 ht];have G:(a.eval y).cells.size=n:=by have:=Z.1;rw[hn]at this;simpa using this
 rw[j4 (by simp[G])];simp only[h1,j9,zcn];exact hK _ _ _ h2
def zru{T:TypeId}(h:(P.info? T).bind (·.zero)=some (.agg #[.int .i64 0,.int .i64 0])):∃z i,P.info? T=some i/\i.zero=some z/\∀I,RV I noNames (.agg [.int .i64 0,.int .i64 0]) z:=by
 cases hi:P.info? T with
 |none=>rw[hi]at h;cases h
 |some i=>
  rw[hi]at h;refine⟨_,i,rfl,h,λI=>.agg _ [.int .i64 0,.int .i64 0] rfl λj c v Z hv=>?_⟩;rcases j with _|_|j
  ·simp at Z hv;subst Z;subst hv;exact .int _ _
  ·simp at Z hv;subst Z;subst hv;exact .int _ _
  ·simp at Z
end
end Go.Rse
namespace Go.Rse
open Go Go.RowKit
section
variable{P:Program}{C:Ctx}{st:St}{ty:TypeId}{Q:Exit->St->Prop}
def zcw{α:Type}{enc:α->List AV}{l:List α}{E t:TypeId}{x y:Operand}{k s:Nat}{kk:IntKind}{i:Int}{ag:Bool}(hx:ev st x=some (.own k))(T:lk st.h k=some (.row enc l E s))(N:ev st y=some (.int kk i))(ht:slOk P t E=true)(hE:tyOk P E ag s=true)
 (h0:0<=i)(G:i<=l.length):Pur P C (.slice t x none (some y) none) ty st (.sub k s 0 i.toNat):=λg a w dst pos af gd hr=>by
 obtain⟨xs,J,_⟩:=hr.sat.blk k _ T;have ek:=zZ (yy hr hx);have ey:=y7 (yy hr N)
 have key:∀(A:Option Addr)(c:Nat),g.ρ k=.slice A l.length c->(l.length≠0->∃b,A=some ⟨b,0,none⟩)->l.length<=c→
  ∃v,(execOp a.eval {dst:=dst,op:=.slice t x none (some y) none,type:=ty,pos:=pos,after:=af,guard:=gd}).run P w=.ok (.value v) w/\RV g.I g.ρ (.sub k s 0 i.toNat) v:=λA c hv H hc=>by
  refine⟨.slice (if c=0 then A else A.map (·.add (0*s))) (i.toNat-0) (c-0),?_,.sub k s _ _ _ _ (λhm=>?_)⟩
  ·rw[hv]at ek
   have:(Instr.sliceBounds true l.length c none (some (.int kk i)) none).run P w=.ok (0,i.toNat,c) w:=by
    have:i<=(c:Int):=by omega
    simp[Instr.sliceBounds,Instr.sliceBound,asIntOf,h0,this]
   simp[execOp,Instr.sliceAt,Instr.slice,run_underlying (zj ht),←ek,ey,this,y4 hE]
  ·obtain⟨b,U⟩:=H (by omega);refine⟨b,by rw[hv,U];rfl,?_⟩;rw[U];split<;>simp[zK]
 rcases J.2 with⟨hv,Z⟩|⟨b,cap,cur,hv,_,_,V,_⟩
 ·exact key none 0 (by rw[hv,Z]) (λh=>absurd Z h) (by omega)
 ·exact key _ cap hv (λ_=>⟨b,rfl⟩) V
def znk{k:Nat}:∀{cs:List AV}{j:Nat}{c:AV},AV.fr.frL k cs=true->cs[j]? =some c->c.fr k=true
 |[],j,c,_,h=>by simp at h
 |x::r,0,c,hf,h=>by
  simp[AV.fr.frL]at hf;simp at h;subst h;exact hf.1
 |x::r,j+1,c,hf,h=>by
  simp[AV.fr.frL]at hf;exact znk hf.2 (by simpa using h)
def mvF(k k':Nat):AV->AV
 |.own n=>bif n.beq k then .own k' else .own n
 |x=>cln k x
theorem Imp.mv{α:Type}{enc:α->List AV}{l:List α}{E s:Nat}(k k':Nat)(hk:lk st.h k=some (.row enc l E s))(hf:st.fr k'=true):Imp C st {t:=mapT (mvF k k') st.t,h:=(k',.row enc l E s)::(k,.dead)::mapH (mvF k k') st.h}:=λg a w hr=>by
 obtain⟨xs,hw,h1,h2,h3⟩:=hr.sat.blk k _ hk;simp only[St.fr,j7]at hf;let ρ':Nat->Value:=λn=>if n=k' then g.ρ k else g.ρ n
 let O':Owns:=λb=>if yY (g.ρ k)=some b then some (C.d,k')else g.O b
 have hρ:∀n,some k'≠some n->ρ' n=g.ρ n:=λn J=>by
  show(if n=k' then _ else _)=_;rw[j4 (λe=>J (by rw[e]))]
 have N:∀b,yY (g.ρ k)≠some b->O' b=g.O b:=λb Z=>j4 Z
 have x1:∀b,yY (g.ρ k)=some b->O' b=some (C.d,k'):=λb Z=>j3 Z
 have x3:∀x v,x.fr k'=true->RV g.I g.ρ x v->RV g.I ρ' (mvF k k' x) v:=λx v hx h=>by
  have v8:RV g.I ρ' (cln k x) v:=by
   unfold cln;cases hq:x.fr k with
   |false=>exact .any _
   |true=>exact h.renameOpt (nk:=some k') (λn J=>by injection J with J;rw[←J];exact hx) hρ
  cases x<;>try exact v8
  case own n=>
   simp only[mvF];cases Z:n.beq k with
   |false=>exact h.renameOpt (nk:=some k') (λn J=>by injection J with J;rw[←J];exact hx) hρ
   |true=>
    have:n=k:=by simpa using Z
    subst this;have e:=zZ h;cases h with
    |own _ A m c h=>exact .own k' A m c (by show(if k'=k' then _ else _)=_;rw[j3 rfl];exact h)
 have x2:ImOB ⟨ρ',g.I,O'⟩ w:=by
  refine⟨λb o u hI=>?_,λb n hO=>?_,hr.sat.ob.2⟩
  ·obtain⟨q1,q2⟩:=hr.sat.im b o u hI;refine⟨q1,?_⟩;by_cases Z:yY (g.ρ k)=some b
   ·rw[(h3 b Z).1]at q2;cases q2
   ·exact(N b Z).trans q2
  ·by_cases Z:yY (g.ρ k)=some b
   ·exact hr.sat.ob.1 b _ (h3 b Z).1
   ·have:O' b=some n:=hO;rw[N b Z]at this;exact hr.sat.ob.1 b n this
 have v5:Dfs C ⟨ρ',g.I,O'⟩ a.defers w:=by
  obtain⟨D,d1,dn,d2⟩:=hr.defers;refine⟨D,d1,dn,λr v4=>?_⟩;obtain⟨d3,d4,d5⟩:=d2 r v4;refine⟨d3,?_,d5⟩;show O' r=none;by_cases Z:yY (g.ρ k)=some r
  ·rw[(h3 r Z).1]at d4;cases d4
  ·exact(N r Z).trans d4
 have xT:∀(b kk:Nat),kk≠k->g.O b=some (C.d,kk)->O' b=some (C.d,kk):=λb kk H hO=>by
  by_cases Z:yY (g.ρ k)=some b
  ·rw[(h3 b Z).1]at hO;injection hO with hO;injection hO with _ hO;exact absurd hO.symm H
  ·exact(N b Z).trans hO
 refine⟨⟨ρ',g.I,O'⟩,hr.size,v5,λt x hx=>?_,⟨x2.1,x2.2,λkk B G=>?_⟩,?_⟩
 ·rw[zh1]at hx;cases hz:lk st.t t with
  |none=>simp[hz]at hx
  |some z=>simp[hz]at hx;subst hx;exact x3 z _ (ziT hf.1 hz) (hr.tmps t z hz)
 ·simp only[yq]at G;cases x4:k'.beq kk with
  |true=>
   have e1:k'=kk:=by simpa using x4
   subst e1;simp[x4]at G;subst G;have e2:ρ' k'=g.ρ k:=j3 rfl;refine⟨xs,(by show w.ownsRow 0 E s (ρ' k') _ xs;rw[e2];exact hw),h1,h2,λb Z=>?_⟩
   replace Z:yY (ρ' k')=some b:=Z
   rw[e2]at Z;exact⟨x1 b Z,(h3 b Z).2⟩
  |false=>
   simp only[x4,cond_false]at G;cases U:k.beq kk with
   |true=>simp[U]at G;subst G;trivial
   |false=>
    simp only[U,cond_false]at G;have H:kk≠k:=λe=>by subst e;simp at U
    have x0:kk≠k':=λe=>by subst e;simp at x4
    have eρ:ρ' kk=g.ρ kk:=j4 x0;rw[zh2]at G;cases hz:lk st.h kk with
    |none=>simp[hz]at G
    |some B0=>
     simp[hz]at G;subst G;have h0:=hr.sat.blk kk B0 hz;have w2:=(zcW hf.2 hz).1;cases B0 with
     |box cs E=>
      obtain⟨b2,vs,q1,q2,q3,q4,q5,q6⟩:=h0;refine⟨b2,vs,eρ.trans q1,xT b2 kk H q2,q3,q4,by simpa using q5,λj c v hc hv=>?_⟩;rw[jO]at hc;cases T:cs[j]? with
      |none=>simp[T]at hc
      |some c0=>simp[T]at hc;subst hc;exact x3 c0 v (znk w2 T) (q6 j c0 v T hv)
     |row enc l E s=>
      obtain⟨ys,q1,q2,q3,q4⟩:=h0;refine⟨ys,(by show World.ownsRow _ _ _ _ (ρ' kk) _ _;rw[eρ];exact q1),q2,q3,λb2 U=>?_⟩
      replace U:yY (ρ' kk)=some b2:=U
      rw[eρ]at U;exact⟨xT b2 kk H (q4 b2 U).1,(q4 b2 U).2⟩
     |hold vs cs=>
      refine⟨by simpa using h0.1,λj c v hc hv=>?_⟩;rw[jO]at hc;cases T:cs[j]? with
      |none=>simp[T]at hc
      |some c0=>simp[T]at hc;subst hc;exact x3 c0 v (znk w2 T) (h0.2 j c0 v T hv)
     |obj b2 o=>exact⟨h0.1,xT b2 kk H h0.2.1,h0.2.2⟩
     |yld j on=>
      refine zgO (bo:=yY (g.ρ k)) h0 (Im.le_refl _) (λb' _ V=>N b' V) (λb' e=>.inl ⟨k,(h3 b' e).1⟩) ⟨rfl,rfl,rfl,jD _,λ_ _ _=>rfl⟩ (jD _) (λb' n J=>?_) x2;by_cases V:yY (g.ρ k)=some b'
      ·exact h0.2.2.2.1 b' k (h3 b' V).1
      ·have:O' b'=some (C.d,n):=J;rw[N b' V]at this;exact h0.2.2.2.1 b' n this
     |mpb kenc venc l=>
      obtain⟨b2,es,ck,q1,q2,q3,q4,q5,q6⟩:=h0;exact⟨b2,es,ck,eρ.trans q1,xT b2 kk H q2,q3,q4,q5,q6⟩
     |dead=>trivial
 ·refine⟨hr.ext.I,hr.ext.os,hr.ext.tape,hr.ext.output,hr.ext.drawn,hr.ext.size,λb Z J ho=>?_,λb y n v9 hy=>?_⟩
  ·obtain⟨q1,q2⟩:=hr.ext.keep b Z J ho;refine⟨q1,?_⟩;by_cases V:yY (g.ρ k)=some b
   ·exact absurd (h3 b V).2 J
   ·exact(N b V).trans q2
  ·by_cases V:yY (g.ρ k)=some b
   ·have:O' b=some (y,n):=hy;rw[x1 b V]at this;injection this with this;injection this with e1 e2;subst e1;exact hr.ext.own b C.d k v9 (h3 b V).1
   ·have:O' b=some (y,n):=hy;rw[N b V]at this;exact hr.ext.own b y n v9 this
def fnTy(P:Program)(t:TypeId):Prop:=∃a b c,P.underlying t=some (.func a b c)
def zls{t:TypeId}(Z:fnTy P t)(c:Go.Fn)(u v:Array Value)(w:World):(Op.equal t (.func c u v) .nilFunc).run P w=.ok false w:=by
 obtain⟨p,q,r,Z⟩:=Z;unfold Op.equal;rw[show Op.maxDepth=9999+1 from rfl];unfold Op.equalIn;simp[run_underlying Z]
def zjk{t:TypeId}(Z:fnTy P t)(w:World):(Op.equal t .nilFunc .nilFunc).run P w=.ok true w:=by
 obtain⟨p,q,r,Z⟩:=Z;unfold Op.equal;rw[show Op.maxDepth=9999+1 from rfl];unfold Op.equalIn;simp[run_underlying Z]
def zrv{t:TypeId}{x y:Operand}{yt:TypeId}{f:FuncId}{cs:List AV}(Z:fnTy P t)(hx:ev st x=some (.fn f cs))(V:ev st y=some .nilf):Pur P C (.binOp .neq t x y yt) ty st (.bool true):=λg a w dst pos af gd hr=>by
 obtain⟨us,e,_,_⟩:=zcX (yy hr hx);have ey:=zgP (yy hr V);refine⟨.bool true,?_,.bool _⟩;have U:(eqGuard .neq t x y (.func (.func f) #[] us.toArray) .nilFunc).run P w=.ok () w:=by unfold eqGuard;simp
 simp only[execOp,e,ey,jK,U,j9,binOp,zls Z,jL];rfl
def znl{t:TypeId}{x y:Operand}{yt:TypeId}(Z:fnTy P t)(hx:ev st x=some .nilf)(V:ev st y=some .nilf):Pur P C (.binOp .neq t x y yt) ty st (.bool false):=λg a w dst pos af gd hr=>by
 have e:=zgP (yy hr hx);have ey:=zgP (yy hr V);refine⟨.bool false,?_,.bool _⟩;have U:(eqGuard .neq t x y .nilFunc .nilFunc).run P w=.ok () w:=by unfold eqGuard;simp
 simp only[execOp,e,ey,jK,U,j9,binOp,zjk Z,jL];rfl
def ChM.gn{ops:Array Oper}{ms:List Nat}{hid:List Nat}{i m:Nat}{fs:List FactM}{o:Oper}(x:AV){d gi t:Nat}{want b:Bool}{g0:List (Nat×Bool)}(h:ChM P C ops ms st hid Q (i+1) (⟨i,some d,x,none,m,(gi,want)::g0⟩::fs))(hm:ms[i]? =some m:=by exact rfl)(ho:ops[i]? =some o:=by exact rfl)(N:o.guard=some (gi,want):=by exact rfl)(Z:o.dst=some d:=by exact rfl)(hi:(ops[gi]?).bind (·.dst)=some t:=by exact rfl)
 (J:zcv fs gi=g0:=by first|exact(rfl:_=[])|exact(rfl:_=[_])|exact(rfl:_=[_,_])|exact(rfl:_=[_,_,_]))(I:lk (stR st hid m fs).t t=some (optV (zi fs g0) g0 (.bool b)):=by exact rfl)(V:zaQ fs gi want=(b==want):=by exact rfl)(U:zc7 fs ((gi,want)::g0)=true:=by exact rfl)
 (T:zi fs ((gi,want)::g0)=false:=by exact rfl)(H:d.blt C.n=true:=by exact rfl):ChM P C ops ms st hid Q i fs:=
 .guard hm ho N hi I rfl V (zaW U) (λe=>by rw[T]at e;cases e) (by rw[Z];exact H) (by rw[Z];exact h)
end
end Go.Rse
namespace Go.Rse
open Go Go.RowKit
section
variable{P:Program}{C:Ctx}{st:St}{ty:TypeId}
def zeY{α:Type}{enc:α->List AV}{l:List α}{u:α}{t:TypeId}{x:Operand}{k s i:Nat}{E:TypeId}(hx:ev st x=some (.ptr k s i 0))(hk:lk st.h k=some (.row enc l E s))(H:l[i]? =some u)(hl:(enc u).length=s)(hn:AV.nm.nmL (enc u)=true)
 (ht:tyOk P t true s=true):Pur P C (.load t x) ty st (.agg (enc u)):=λg a w dst pos af gd hr=>by
 obtain⟨b,T,e⟩:=zad (yy hr hx);obtain⟨xs,G,h1,h2,h3⟩:=hr.sat.blk k _ hk;rcases G.2 with⟨hv,_⟩|⟨b',cap,cur,hv,_,hh,x4,_,xT,N⟩
 ·rw[hv]at T;simp[yY]at T
 ·have:b'=b:=by rw[hv]at T;simpa[yY]using T
  subst this;have J:i<l.length:=(j1.1 H).1
  have x3:i*s+s<=l.length*s:=by
   have h2:(i+1)*s<=l.length*s:=jT s J;have h3:(i+1)*s=i*s+s:=vL i s;omega
  have x2:xs.length=l.length*s:=G.1;have Z:((xs.drop (i*s)).take s).length=s:=by rw[jM,wM];omega
  have V:∀j,j<s->((xs.drop (i*s)).take s)[j]? =xs[i*s+j]? :=λj U=>by
   rw[wL U,w9]
  refine⟨.agg ((xs.drop (i*s)).take s).toArray,?_,.agg _ _ (by rw[Z,hl]) (λj c v I hv=>?_)⟩
  ·have:=zL (P:=P) (t:=t) ht (b:=b') (o:=i*s) (w:=w) (vs:=(xs.drop (i*s)).take s) Z (λj v hv=>by
    have U:j<s:=by rw[←Z];exact(j1.1 hv).1
    rw[V j U]at hv;simp only[World.cell?,hh]
    have h0:cur.toList[i*s+j]? =some v:=by
     rw[←hv];conv=>rhs;rw[←N]
     rw[w4,j3 (by omega)]
    simpa using h0)
   simp only[execOp,e,uN,jK,Instr.loadAt,Instr.sureAddr,jL,j9,this]
  ·have U:j<s:=by rw[←hl];exact(j1.1 I).1
   rw[V j U]at hv;exact(h2 i u j c v H I hv).forget (zw hn I)
end
end Go.Rse
namespace Go.Rse
open Go Go.RowKit
def za{P:Program}{C:Ctx}{st:St}{ty t:TypeId}{x:Operand}{f k s i j j2 off:Nat}(h:ev st x=some (.ptr k s i j))[ho:FoK P t f off](e:j+off=j2):Pur P C (.fieldAddr t x f) ty st (.ptr k s i j2):=e▸zd8 h ho.h
def zc8{P:Program}{C:Ctx}{rv:List ResultVar}{r:AV}{vs:List Value}{cs:List AV}{Z:List (Nat×Blk)}{e:Exit}{st st':St}(hi:Imp C st st')(h:zkj P C rv r vs cs Z e st'):zkj P C rv r vs cs Z e st:=by
 obtain⟨V,ts,ex,U,T⟩:=h;exact⟨V,ts,ex,hi.trans U,T⟩
def ztj{P:Program}{C:Ctx}{st:St}{dst:Option Tmp}{ty:TypeId}{fop:Operand}{args:Array Operand}{ts:Array TypeId}{f:FuncId}{caps xs ass:List AV}{hs Z:List (Nat×Blk)}{kp:List Nat}{r:AV}
 (μ:List (Nat×Nat))(h:FnO P f ass hs kp r Z)(hf:ev st fop=some (.fn f caps))(hx:evs st args.toList=some xs)(hμ:biOk μ=true)(T:LeL (xs++caps) (ass.map (AV.ren μ)))(N:ass.all (AV.okN (keys hs))=true)(J:r.okN (keys Z)=true)
 (I:zaH st μ (keys hs) hs)(V:∀p∈Z,(fwd μ p.1).isSome=true/\p.2.okNB (keys Z)=true)(U:∀p∈μ,kp.any (·.beq p.1)=true\/(hs.any (·.1.beq p.1)=true/\Z.any (·.1.beq p.1)=false)\/(hs.any (·.1.beq p.1)=false/\st.fr p.2=true))
 (H:∀n∈kp,hs.any (·.1.beq n)=true)(E:dOk C.n dst=true):
 yC P C (.call {callee:=.value fop,args:=args,argTypes:=ts}) ty dst st (zbK st μ hs Z dst r):=λg a w pos af gd hr K hK=>by
 obtain⟨A,e2,h0⟩:=zhg (dst:=dst) (ty:=ty) (ts:=ts) μ h.r hf hx hμ T N J I V U H E hr;unfold wp1;rw[e2];refine Calls.mono h0 ?_
 rintro e w'⟨v,g',rfl,G⟩
 exact⟨v,rfl,hK _ _ g' G⟩
def zc9{C:Ctx}{st:St}{α:Type}(enc:α->List AV)(E s b k i E0:Nat)(cs cs2:List AV)(ht:lk st.h b=some (.box cs E0))(hi:cs[i]? =some .nils)(U:cs.set i (.own k)=cs2)(hf:st.fr k=true):Imp C st {t:=st.t,h:=(b,.box cs2 E0)::(k,.row enc [] E s)::st.h}:=λg a w hr=>by
 subst U
 have T:b≠k:=λe=>by
  subst e;simp[St.fr]at hf;exact(zcW hf.2 ht).2 rfl
 have G:Add (some k) g w {ρ:=λn=>if n=k then .slice none 0 0 else g.ρ n,I:=g.I,O:=g.O} w:=⟨Im.le_refl _,λn V=>by
  have:n≠k:=λe=>V (by rw[e])
  simp[this],λ_ _=>rfl,Grow.refl w⟩
 have h1:=hr.add (d:=none) (x:=.any) (v:=.nilIface) G (λn V=>by injection V with V;subst V;exact hf) (λt h=>by simp at h) (.any _) hr.sat.im hr.sat.ob;have H:=h1.withBlk (k:=k) (B:=.row enc [] E s) ⟨[],⟨by simp,.inl ⟨by simp,rfl⟩⟩,λi x h=>by simp at h,λi x j c v h=>by simp at h,λb hb=>by simp[yY]at hb⟩
 have N:lk ((k,Blk.row enc [] E s)::st.h) b=some (.box cs E0):=by
  have:k.beq b=false:=beqF.2 λe=>T e.symm
  simp[yq,this,ht]
 obtain⟨b1,vs,e1,e2,e3,e4,e5,e6⟩:=H.sat.blk b _ N;refine⟨_,H.withBlk (k:=b) (B:=.box (cs.set i (.own k)) E0) ⟨b1,vs,e1,e2,e3,e4,by simpa using e5,λj c v Z hv=>?_⟩⟩;rw[vN]at Z;split at Z
 ·rename_i J;subst J;split at Z
  ·injection Z with Z;subst Z;have:=zdE (e6 i .nils v hi hv);rw[this];exact .own k none 0 0 (by simp)
  ·simp at Z
 ·exact e6 j c v Z hv
def zrw{P:Program}{C:Ctx}{st:St}{dst:Option Tmp}{ty:TypeId}{fop:Operand}{args:Array Operand}{ts:Array TypeId}{f:FuncId}{caps xs as':List AV}{hs Z:List (Nat×Blk)}{kp:List Nat}{r:AV}
 (μ:List (Nat×Nat))(h:FnO P f as' hs kp r Z)(hf:ev st fop=some (.fn f caps):=by exact rfl)(hx:evs st args.toList=some xs:=by exact rfl)(hμ:biOk μ=true:=by exact rfl)(N:LeL (xs++caps) (as'.map (AV.ren μ)):=by exact LeL.refl _)(J:as'.all (AV.okN (keys hs))=true:=by exact rfl)(I:r.okN (keys Z)=true:=by exact rfl)
 (H:zaH st μ (keys hs) hs:=by repeat'(first|exact True.intro|refine And.intro ⟨_,_,rfl,rfl,LeB.refl _,rfl⟩ ?_))(V:(Z.all λp=>(fwd μ p.1).isSome&&p.2.okNB (keys Z))=true:=by exact rfl)
 (U:(μ.all λp=>kp.any (·.beq p.1)||(hs.any (·.1.beq p.1)&&!(Z.any (·.1.beq p.1)))||(!(hs.any (·.1.beq p.1))&&st.fr p.2))=true:=by exact rfl)
 (G:(kp.all λn=>hs.any (·.1.beq n))=true:=by exact rfl)(hd:dOk C.n dst=true:=by exact rfl):
 yC P C (.call {callee:=.value fop,args:=args,argTypes:=ts}) ty dst st (zbK st μ hs Z dst r):=by
 refine ztj μ h hf hx hμ N J I H (λp E=>?_) (λp E=>?_) (λn hn=>jB.1 G n hn) hd
 ·have:=jB.1 V p E;simpa using this
 ·have:=jB.1 U p E;simp only[wB,j7,wF]at this;rcases this with(T|T)|T
  ·exact .inl T
  ·exact .inr (.inl T)
  ·exact .inr (.inr T)
end Go.Rse
namespace Go.Rse
open Go Go.RowKit
def AV.flat:AV->Bool
 |.int _ _|.bool _|.str _|.nils|.nilf|.val _=>true
 |.agg cs=>flatL cs
 |.tup cs=>flatL cs
 |_=>false
where flatL:List AV->Bool
 |[]=>true
 |x::r=>x.flat&&flatL r
def zaX:∀{cs:List AV},AV.flat.flatL cs=true->∀{j:Nat}{c:AV},cs[j]? =some c->c.flat=true
 |[],_,_,_,h=>by simp at h
 |x::r,h,0,c,e=>by
  simp[AV.flat.flatL]at h;simp at e;exact e▸h.1
 |x::r,h,j+1,c,e=>by
  simp[AV.flat.flatL]at h;exact zaX h.2 (by simpa using e)
def RV.flat{I J:Im}{ρ ρ':Nat->Value}{x:AV}{v:Value}(h:RV I ρ x v)(hf:x.flat=true):RV J ρ' x v:=by
 induction h with
 |int k n=>exact .int k n
 |bool b=>exact .bool b
 |str s=>exact .str s
 |nils=>exact .nils
 |nilf=>exact .nilf
 |val v=>exact .val v
 |agg cs vs hl hv ih=>exact .agg cs vs hl (λj c v V Z=>ih j c v V Z (zaX (by simpa[AV.flat]using hf) V))
 |tup cs vs hl hv ih=>exact .tup cs vs hl (λj c v V Z=>ih j c v V Z (zaX (by simpa[AV.flat]using hf) V))
 |_=>simp[AV.flat]at hf
abbrev Hyp:=Im->Owns->World->Prop
def FnW(P:Program)(f:FuncId)(az:List AV)(r:AV)(H:Hyp):Prop:=
 zak P f=true/\r.nm=true/\∀(g:Gh)(w:World)(args:List Value),ImO g.I g.O w->H g.I g.O w->RVL g.I noNames az args→
  Calls P f args.toArray w λe w'=>∃v g',e=.returned v/\RV g'.I noNames r v/\Add none g w g' w'/\ImOB g' w'
def FnW.go{P:Program}{f:FuncId}{fn:Func}{c:Code}{n:Nat}{az:List AV}{rv:List ResultVar}{r:AV}{H:Hyp}(hf:P.funcs[f]? =some fn)(E:fn.ntmps=n)(h:∀g w d,H g.I g.O w->(∀b n,g.O b≠some (d,n))->X P (C0 n d g w) c ⟨zbs 0 az,[]⟩ (RetQ P (C0 n d g w) rv r))(hb:fn.body=some c:=by exact rfl)
 (N:fn.results=rv.toArray:=by exact rfl)(hc:zak P f=true:=by kernel_rfl)(hnm:r.nm=true:=by exact rfl)(V:az.length<=n:=by simp):FnW P f az r H:=by
 refine⟨hc,hnm,λg w args U hH Z=>(callsIn_wide (n:=0)).1 (callsIn_of_wp_marks hf hb trivial ?_)⟩;obtain⟨d,G,-⟩:=zc2 g.O w.heap.size [] U.2.1;have T:=zfh (C:=C0 n d ⟨noNames,g.I,g.O⟩ w) (I:=g.I) (O:=g.O) (m:=fn.ntmps) rfl rfl E V U Z;exact wpIn_mono (h ⟨noNames,g.I,g.O⟩ w d hH G _ _ w T) λe a w'⟨st,g1,J,hq⟩=>zrm.plain N hnm hq g1 a w' J G
def FnOW(P:Program)(f:FuncId)(az:List AV){α:Type}(enc:α->List AV)(l:List α)(E s:Nat)(H:Hyp):Prop:=
 zak P f=true/\∀(d:Nat)(ρ:Nat->Value)(I:Im)(O:Owns)(w:World)(args:List Value),(∀b n,O b≠some (d,n))->ImO I O w->H I O w->RVL I ρ az args→
  Calls P f args.toArray w λe w'=>∃v ρ' I' O',e=.returned v/\Sat (C0 0 d ⟨ρ,I,O⟩ w) [(5,.row enc l E s)] ⟨ρ',I',O'⟩ w'/\RV I' ρ' (.own 5) v/\Ext (C0 0 d ⟨ρ,I,O⟩ w) ⟨ρ',I',O'⟩ w'
def FnO.ow{P:Program}{f:FuncId}{az:List AV}{α:Type}{enc:α->List AV}{l:List α}{E s:Nat}(h:FnO P f az [] [] (.own 5) [(5,.row enc l E s)]):FnOW P f az enc l E s λ_ _ _=>True:=
 ⟨h.1,λd ρ I O w args _ V _ Z=>Calls.mono (h.2 d ρ I O w args ⟨V.1,V.2,λk B U=>by simp[lk]at U⟩ Z) λe w'⟨v,ρ',I',O',T,N,J,H,_⟩=>⟨v,ρ',I',O',T,N,J,H⟩⟩
def FnOW.go{P:Program}{f:FuncId}{fn:Func}{c:Code}{n:Nat}{az:List AV}{rv:List ResultVar}{α:Type}{enc:α->List AV}{l:List α}{E s:Nat}{H:Hyp}(hf:P.funcs[f]? =some fn)(hn:fn.ntmps=n)
 (h:∀g w d,H g.I g.O w->(∀b n,g.O b≠some (d,n))->X P (C0 n d g w) c ⟨zbs 0 az,[]⟩ (λe st=>(e=.normal\/e=.ret)/\∃ts ex,Imp (C0 n d g w) st ⟨ts,(5,.row enc l E s)::ex⟩/\RetVs P ⟨ts,(5,.row enc l E s)::ex⟩ rv (.own 5)))(hb:fn.body=some c:=by exact rfl)
 (x2:fn.results=rv.toArray:=by exact rfl)(hc:zak P f=true:=by kernel_rfl)(v5:az.length<=n:=by simp):FnOW P f az enc l E s H:=by
 refine⟨hc,λd ρ I O w args x1 N hH V=>(callsIn_wide (n:=0)).1 (callsIn_of_wp_marks hf hb trivial ?_)⟩;have x0:args.length=az.length:=V.1;let C:=C0 n d ⟨ρ,I,O⟩ w
 have J:Rel C ⟨zbs 0 az,[]⟩ ⟨ρ,I,O⟩ {tmps:=args.toArray++Array.replicate (fn.ntmps-args.toArray.size) undef,defers:=[]} w:=by
  refine⟨by simp[hn,C];omega,Dfs.nil _ _ _,λt x hx=>?_,⟨N.1,N.2,λk B G=>by simp[lk]at G⟩,⟨Im.le_refl _,rfl,rfl,rfl,jD _,jD _,λ_ _ _ _=>⟨rfl,rfl⟩,λb y n _ hy=>⟨n,hy⟩⟩⟩;obtain⟨_,T⟩:=zc1 (I:=I) (ρ:=ρ) az 0 t x hx;simp only[vS]at T;have ht:t<args.length:=by rw[x0];exact(j1.1 T).1
  have e:(args.toArray++Array.replicate (fn.ntmps-args.toArray.size) undef).getD t undef=args[t]:=by
   simp[jI,uI,ht]
  rw[e];exact V.2 t x _ T (jA ht)
 refine wpIn_mono (h ⟨ρ,I,O⟩ w d hH x1 _ _ w J) ?_
 rintro e a w'⟨st,g1,w2,he,ts',ex',xT,x4⟩
 obtain⟨g2,U⟩:=xT g1 a w' w2
 have x3:LeavesInM Fence.wide 0 P fn a.tmps (λe w'=>∃v ρ' I' O',e=.returned v/\Sat (C0 0 d ⟨ρ,I,O⟩ w) [(5,.row enc l E s)] ⟨ρ',I',O'⟩ w'/\RV I' ρ' (.own 5) v/\Ext (C0 0 d ⟨ρ,I,O⟩ w) ⟨ρ',I',O'⟩ w') a.defers .returning w':=by
  obtain⟨D,hD,v9,v8⟩:=U.defers;refine zaO (C:=C) x2 x4 rfl (λg3 w3 v Z hv=>?_) D hD.plain v9 v8 ⟨U.size,Dfs.nil _ _ _,U.tmps,U.sat,U.ext⟩;refine⟨v,g3.ρ,g3.I,g3.O,rfl,⟨Z.sat.im,Z.sat.ob,λk B G=>?_⟩,hv,⟨Z.ext.I,Z.ext.os,Z.ext.tape,Z.ext.output,Z.ext.drawn,Z.ext.size,Z.ext.keep,Z.ext.own⟩⟩;refine(Z.sat.blk k B ?_).ctx;simp only[yq]at G⊢;cases hb:Nat.beq 5 k
  ·simp[hb,lk]at G
  ·simpa[hb]using G
 rcases he with rfl|rfl<;>exact x3
section
variable{P:Program}{C:Ctx}{st:St}{ty:TypeId}
def zwX{ι:Type}{fop:Operand}{args:Array Operand}{ts:Array TypeId}{f:FuncId}{caps xs az:ι->List AV}{r:AV}{H:ι->Hyp}{stF:ι->St}(hl:∀g a w,Rel C st g a w->∃i gF,Rel C (stF i) gF a w/\H i gF.I gF.O w)(h:∀i,FnW P f (az i) r (H i))
 (hf:∀i,ev (stF i) fop=some (.fn f (caps i)):=by intro i;rfl)(hx:∀i,evs (stF i) args.toList=some (xs i):=by intro i;rfl)(E:∀i,AV.nm.nmL (xs i++caps i)=true:=by intro i;rfl)(J:∀i,LeL (xs i++caps i) (az i):=by intro i;exact LeL.refl _)(hr:r.flat=true:=by rfl):
 yA P C (.call {callee:=.value fop,args:=args,argTypes:=ts}) ty st r none:=λg a w dst pos af gd Z K hK=>by
 obtain⟨i,gF,V,hH⟩:=hl g a w Z;obtain⟨us,e,G,hu⟩:=zcX (yy V (hf i));have U:=zeM V (hx i);have N:RVL gF.I noNames (az i) (args.toList.map a.eval++us):=(J i).rvl ((U.append ⟨G,hu⟩).forget (E i));have h0:=(h i).2.2 gF w _ ⟨V.sat.im,V.sat.ob⟩ hH N;have e1:(args.toList.map a.eval++us).toArray=args.map a.eval++us.toArray:=by simp[←Array.toList_map]
 rw[e1]at h0
 have e2:(execOp a.eval {dst:=dst,op:=.call {callee:=.value fop,args:=args,argTypes:=ts},type:=ty,pos:=pos,after:=af,guard:=gd}).run P w=.ok (.enter f (args.map a.eval++us.toArray)) w:=by
  simp only[execOp,resolve,e,Deferred.ofValue,jK,jL,j9,invoke,zS (h i).1];simp
 unfold wp1;rw[e2];refine Calls.mono h0 ?_
 rintro e w'⟨v,g',rfl,h1,h2,h3⟩
 refine⟨v,rfl,?_⟩;have T:=h2.grow;refine hK v w' g ⟨Im.le_refl _,λ_ _=>rfl,λ_ _=>rfl,T⟩ (h1.flat hr) ⟨λb o u hI=>⟨T.cell (Z.sat.im b o u hI).1,(Z.sat.im b o u hI).2⟩,Z.sat.ob.up (Im.le_refl _) T.size⟩ (λ_ _ h=>by cases h)
def A_lendO{ι:Type}{fop:Operand}{args:Array Operand}{ts:Array TypeId}{f:FuncId}{caps xs az:ι->List AV}{α:Type}{enc:α->List AV}{l:List α}{E s:Nat}{H:ι->Hyp}{stF:ι->St}(k:Nat)(hl:∀g a w,Rel C st g a w->∃i gF,Rel C (stF i) gF a w/\H i gF.I gF.O w)(h:∀i,FnOW P f (az i) enc l E s (H i))
 (w2:∀x,AV.flat.flatL (enc x)=true:=by intro x;rfl)(hf:∀i,ev (stF i) fop=some (.fn f (caps i)):=by intro i;rfl)(hx:∀i,evs (stF i) args.toList=some (xs i):=by intro i;rfl)(v9:∀i,LeL (xs i++caps i) (az i):=by intro i;exact LeL.refl _):
 yA P C (.call {callee:=.value fop,args:=args,argTypes:=ts}) ty st (.own k) (some (k,.row enc l E s)):=λg a w dst pos af gd T K hK=>by
 obtain⟨i,gF,U,hH⟩:=hl g a w T;obtain⟨us,e,v8,hu⟩:=zcX (yy U (hf i));have N:=zeM U (hx i);have x4:RVL gF.I gF.ρ (az i) (args.toList.map a.eval++us):=(v9 i).rvl (N.append ⟨v8,hu⟩);obtain⟨dc,J,_⟩:=zc2 gF.O w.heap.size [] U.sat.ob.1;have h0:=(h i).2 dc gF.ρ gF.I gF.O w _ J ⟨U.sat.im,U.sat.ob⟩ hH x4;have e1:(args.toList.map a.eval++us).toArray=args.map a.eval++us.toArray:=by simp[←Array.toList_map]
 rw[e1]at h0
 have e2:(execOp a.eval {dst:=dst,op:=.call {callee:=.value fop,args:=args,argTypes:=ts},type:=ty,pos:=pos,after:=af,guard:=gd}).run P w=.ok (.enter f (args.map a.eval++us.toArray)) w:=by
  simp only[execOp,resolve,e,Deferred.ofValue,jK,jL,j9,invoke,zS (h i).1];simp
 unfold wp1;rw[e2];refine Calls.mono h0 ?_
 rintro e w'⟨v,ρ',I',O',rfl,hs,hv,Z⟩
 refine⟨v,rfl,?_⟩
 have G:Grow w w':=⟨Z.os,Z.tape,Z.output,Z.drawn,Z.size,λb V=>(Z.keep b V (λhk=>by
  rcases hk with hk|⟨n,hk⟩
  ·exact absurd hk (xZ.2 V)
  ·exact J b n hk) (λ⟨y,n,hy,_⟩=>by simp at hy)).1⟩
 let g3:Gh:={ρ:=λn=>if n=k then v else g.ρ n,I:=g.I,O:=λb=>if b<w.heap.size then g.O b else(match O' b with|some (y,n)=>if y=dc/\n=5 then some (C.d,k)else none|none=>none)};have x3:∀b,b<w.heap.size->g3.O b=g.O b:=λb V=>by simp[g3,V]
 have xT:ρ' 5=v:=zZ hv;obtain⟨xs',p1,p2,p3,p4⟩:=hs.blk 5 (.row enc l E s) (by simp[yq])
 have x2:∀b,yY (ρ' 5)=some b->O' b=some (dc,5)/\w.heap.size<=b:=λb V=>by
  obtain⟨q1,q2⟩:=p4 b V;refine⟨q1,?_⟩;rcases q2 with q2|⟨n,q2⟩
  ·exact q2
  ·exact absurd q2 (J b n)
 have v5:ImOB g3 w':=by
  refine⟨λb o u hI=>?_,λb p hO=>?_,T.sat.ob.2⟩
  ·obtain⟨q1,q2⟩:=T.sat.im b o u hI;exact⟨G.cell q1,by rw[x3 b (zct q1)];exact q2⟩
  ·rcases wA b w.heap.size with V|V
   ·exact jS V G.size
   ·simp only[g3,Nat.not_lt.2 V,if_false]at hO;cases x1:O' b with
    |none=>simp[x1]at hO
    |some q=>exact hs.ob.1 b q x1
 refine hK v w' g3 ⟨Im.le_refl _,λn hn=>?_,x3,G⟩ ?_ v5 (λk' B hB=>?_)
 ·have:n≠k:=λe=>hn (by simp[e])
  simp[g3,this]
 ·have v4:=zZ hv;rcases p1.2 with⟨e,_⟩|⟨b,cap,cur,e,_⟩<;>
  ·have e:ρ' 5=_:=e;rw[xT]at e;rw[e];exact .own k _ _ _ (by simp[g3,e])
 ·injection hB with hB;injection hB with e3 e4;subst e3;subst e4;have x0:g3.ρ k=v:=by simp[g3]
  refine⟨xs',by rw[x0,←xT];exact p1,p2,λj x q c u hx hc hu=>(p3 j x q c u hx hc hu).flat (zaX (w2 x) hc),λb V=>?_⟩;rw[x0,←xT]at V;obtain⟨q1,q2⟩:=x2 b V;refine⟨by simp[g3,Nat.not_lt.2 q2,q1],.inl (jQ T.ext.size q2)⟩
def y9{α:Type}{enc:α->List AV}{l:List α}{u:α}{t:TypeId}{x:Operand}{k s i j n:Nat}{E:TypeId}{ys:List AV}(hx:ev st x=some (.ptr k s i j))(hk:lk st.h k=some (.row enc l E s))(G:l[i]? =some u)(hy:((enc u).drop j).take n=ys)(hl:ys.length=n)(hj:j+n<=s)(hn:AV.nm.nmL ys=true)
 (ht:tyOk P t true n=true):Pur P C (.load t x) ty st (.agg ys):=λg a w dst pos af gd hr=>by
 obtain⟨b,T,e⟩:=zad (yy hr hx);obtain⟨xs,hw,h1,h2,h3⟩:=hr.sat.blk k _ hk;rcases hw.2 with⟨hv,_⟩|⟨b',cap,cur,hv,_,hh,x4,_,xT,J⟩
 ·rw[hv]at T;simp[yY]at T
 ·have:b'=b:=by rw[hv]at T;simpa[yY]using T
  subst this;have I:i<l.length:=(j1.1 G).1
  have x3:i*s+s<=l.length*s:=by
   have h2:(i+1)*s<=l.length*s:=jT s I;have h3:(i+1)*s=i*s+s:=vL i s;omega
  have x2:xs.length=l.length*s:=hw.1;have Z:((xs.drop (i*s+j)).take n).length=n:=by rw[jM,wM];omega
  have V:∀q,q<n->((xs.drop (i*s+j)).take n)[q]? =xs[i*s+(j+q)]? :=λq U=>by
   rw[wL U,w9,uU]
  refine⟨.agg ((xs.drop (i*s+j)).take n).toArray,?_,.agg _ _ (by rw[Z,hl]) (λq c v N hv=>?_)⟩
  ·have:=zL (P:=P) (t:=t) ht (b:=b') (o:=i*s+j) (w:=w) (vs:=(xs.drop (i*s+j)).take n) Z (λq v hv=>by
    have U:q<n:=by rw[←Z];exact(j1.1 hv).1
    rw[V q U]at hv;simp only[World.cell?,hh]
    have h0:cur.toList[i*s+j+q]? =some v:=by
     rw[←hv];conv=>rhs;rw[←J]
     rw[w4,j3 (by omega),uU]
    simpa using h0)
   simp only[execOp,e,jK,Instr.loadAt,Instr.sureAddr,jL,j9,this]
  ·have U:q<n:=by rw[←hl];exact(j1.1 N).1
   rw[V q U]at hv
   have H:(enc u)[j+q]? =some c:=by
    rw[←hy,wL U,w9]at N;exact N
   exact(h2 i u (j+q) c v G H hv).forget (zw hn N)
def zkk{f:FuncId}{x:Operand}{k s i j:Nat}(hx:ev st x=some (.ptr k s i j)):Pur P C (.makeFunc (.func f) #[x] #[]) ty st (.mth f k s i j):=λg a w dst pos af gd hr=>by
 obtain⟨b,Z,e⟩:=zad (yy hr hx);exact⟨.func (.func f) #[.pointer (some ⟨b,i*s+j,none⟩)] #[],by simp[execOp,Instr.makeFunc,e],.mth f k s i j b Z⟩
def zvc{dst:Option Tmp}{fop:Operand}{args:Array Operand}{ts:Array TypeId}{f:FuncId}{k s i j:Nat}{xs az:List AV}{hs Z:List (Nat×Blk)}{kp:List Nat}{r:AV}
 (μ:List (Nat×Nat))(h:FnO P f az hs kp r Z)(hf:ev st fop=some (.mth f k s i j):=by exact rfl)(hx:evs st args.toList=some xs:=by exact rfl)(hμ:biOk μ=true:=by exact rfl)(G:LeL (.ptr k s i j::xs) (az.map (AV.ren μ)):=by exact LeL.refl _)(E:az.all (AV.okN (keys hs))=true:=by exact rfl)(xT:r.okN (keys Z)=true:=by exact rfl)
 (x4:zaH st μ (keys hs) hs:=by repeat'(first|exact True.intro|refine And.intro ⟨_,_,rfl,rfl,LeB.refl _,rfl⟩ ?_))(N:(Z.all λp=>(fwd μ p.1).isSome&&p.2.okNB (keys Z))=true:=by exact rfl)
 (J:(μ.all λp=>kp.any (·.beq p.1)||(hs.any (·.1.beq p.1)&&!(Z.any (·.1.beq p.1)))||(!(hs.any (·.1.beq p.1))&&st.fr p.2))=true:=by exact rfl)
 (x3:(kp.all λn=>hs.any (·.1.beq n))=true:=by exact rfl)(hd:dOk C.n dst=true:=by exact rfl):
 yC P C (.call {callee:=.value fop,args:=args,argTypes:=ts}) ty dst st (zbK st μ hs Z dst r):=λg a w pos af gd hr K hK=>by
 obtain⟨b,hb,e⟩:=zs9 (yy hr hf);have V:=zeM hr hx
 have U:RVL g.I g.ρ [.ptr k s i j] [.pointer (some ⟨b,i*s+j,none⟩)]:=⟨rfl,λq c v hc hv=>by
  match q with
  |0=>simp at hc hv;subst hc;subst hv;exact .ptr k s i j b hb
  |q+1=>simp at hc⟩
 have H:RVL g.I g.ρ (az.map (AV.ren μ)) ([.pointer (some ⟨b,i*s+j,none⟩)]++args.toList.map a.eval):=G.rvl (U.append V)
 have h0:=znd (T:=Calls P f) (dst:=dst) (λh hm=>Calls.mono h hm) μ h.r.2 hμ E xT x4 (λp hp=>by have:=jB.1 N p hp;simpa using this) (λp hp=>by
  have:=jB.1 J p hp;simp only[wB,j7,wF]at this;rcases this with(U|U)|U
  ·exact .inl U
  ·exact .inr (.inl U)
  ·exact .inr (.inr U)) (λn hn=>jB.1 x3 n hn) hd hr H
 have e2:(execOp a.eval {dst:=dst,op:=.call {callee:=.value fop,args:=args,argTypes:=ts},type:=ty,pos:=pos,after:=af,guard:=gd}).run P w=.ok (.enter f (([.pointer (some ⟨b,i*s+j,none⟩)]:List Value)++args.toList.map a.eval).toArray) w:=by
  simp only[execOp,resolve,e,Deferred.ofValue,jK,jL,j9,invoke,zS h.1];simp[←Array.toList_map]
 unfold wp1;rw[e2];refine Calls.mono h0 ?_
 rintro e w'⟨v,g',rfl,x2⟩
 exact⟨v,rfl,hK _ _ g' x2⟩
def zjl{κ α:Type}(b:Nat)(kenc:κ->AV)(venc:α->AV)(L:List (κ×α)):Hyp:=λ_ _ w=>
 b<w.heap.size/\∃es ck,w.heap[b]? =some (.map es ck)/\es.size=L.length/\∀(i:Nat)e p,es[i]? =some e->L[i]? =some p->RV (λ_ _=>none) noNames (kenc p.1) e.key/\RV (λ_ _=>none) noNames (venc p.2) e.val
def zjl.now{κ α:Type}{b:Nat}{kenc:κ->AV}{venc:α->AV}{L:List (κ×α)}{I:Im}{O:Owns}(h:zjl b kenc venc L I O C.w0)(V:C.ds=[])(U:∀b n,C.g0.O b≠some (C.d,n)){g:Gh}{a:Act}{w:World}(hr:Rel C st g a w):zjl b kenc venc L g.I g.O w:=by
 obtain⟨T,es,ck,J,H,G⟩:=h
 obtain⟨e1,e2⟩:=hr.ext.keep b T (λZ=>by
  rcases Z with Z|⟨n,Z⟩
  ·exact absurd Z (xZ.2 T)
  ·exact U b n Z) (λ⟨y,n,N,_⟩=>by rw[V]at N;simp at N)
 exact⟨jS T hr.ext.size,es,ck,e1.trans J,H,G⟩
def zph{α:Type}{venc:α->AV}{l:List (Int×α)}{t K E:TypeId}{x y:Operand}{b:Nat}{q:Int}(z0:α){I:Im}{O:Owns}(hm:zjl b (λi:Int=>.int .i64 i) venc l I O C.w0)(U:∀b n,C.g0.O b≠some (C.d,n))(ht:mpOk P t K E)(hd:∃d,P.underlying K=some (.int d)/\d=.i64)(hz:∃z i,P.info? E=some i/\i.zero=some z/\∀I,RV I noNames (venc z0) z)
 (hf:∀v,(venc v).flat=true:=by intro v;rfl)(T:C.ds=[]:=by rfl)(hx:ev st x=some (.val (.map (some b))):=by exact rfl)(hy:ev st y=some (.int .i64 q):=by exact rfl):
 Pur P C (.lookup t x y false) ty st (venc ((mget q l).getD z0)):=λg a w dst pos af gd hr=>by
 obtain⟨_,es,ck,H,h5,G⟩:=hm.now T U hr;have ex:=zbF (yy hr hx);have ey:=y7 (yy hr hy);obtain⟨d,Z,rfl⟩:=hd;obtain⟨z,i,hi,N,J⟩:=hz;have V:∀(j:Nat)e p,es.toList[j]? =some e->l[j]? =some p->e.key=.int .i64 p.1:=λj e p he hp=>y7 (G j e p (by simpa using he) hp).1
 rcases zgY (q:=q) (d:=.i64) l es.toList 0 (by simpa using h5) V with⟨m1,m2⟩|⟨j,e,v,m1,m2,m3,m4⟩
 ·refine⟨z,?_,?_⟩
  ·simp[execOp,ex,ey,Instr.lookup,run_underlying ht.1,MapKept.run_getObj_map H,MapKept.run_checkKey Z (show MapKept.IsKey (.int .i64) (.int .i64 q)from rfl),MapKept.run_findKey Z m2,Result.andThen,zeroValue,typeInfo,hi,N]
  ·have e1:(mget q l).getD z0=z0:=by simp[mget,m1]
   rw[e1];exact(J g.I).flat (hf _)
 ·simp only[vM]at m1 m2;refine⟨e.val,?_,?_⟩
  ·simp[execOp,ex,ey,Instr.lookup,run_underlying ht.1,MapKept.run_getObj_map H,MapKept.run_checkKey Z (show MapKept.IsKey (.int .i64) (.int .i64 q)from rfl),MapKept.run_findKey Z m2,Result.andThen]
  ·have e1:(mget q l).getD z0=v:=by simp[mget,m1]
   rw[e1];exact(G j e (q,v) (by simpa using m3) m4).2.flat (hf _)
def frzM(k b:Nat):AV->AV
 |.mp k'=>bif k'.beq k then .val (.map (some b))else .mp k'
 |x=>cln k x
def zrx{κ α:Type}{kenc:κ->AV}{venc:α->AV}{L:List (κ×α)}{k:Nat}{stF:Nat->St}(hk:lk st.h k=some (.mpb kenc venc L))(hi:∀b,Imp C ⟨mapT (frzM k b) st.t,(k,.dead)::mapH (frzM k b) st.h⟩ (stF b))(Z:∀x,(kenc x).flat=true)(V:∀x,(venc x).flat=true){g:Gh}{a:Act}{w:World}(hr:Rel C st g a w):
 ∃b gF,Rel C (stF b) gF a w/\zjl b kenc venc L gF.I gF.O w:=by
 obtain⟨b,es,ck,h1,N,h3,H,h5,G⟩:=hr.sat.blk k _ hk
 have hJ:(λb' o=>if b'=b then(none:Option Value)else g.I b' o)=g.I:=by
  funext b' o;split
  ·rename_i e;cases hI:g.I b' o with
   |none=>rfl
   |some u=>have:=(hr.sat.im b' o u hI).2;rw[e,N]at this;cases this
  ·rfl
 have U:=hr.letgo (b:=b) (J:=λ_=>none) (frzM k b) ⟨N,h3⟩ (λo v hv=>by cases hv) λx v hx=>by
  rw[hJ];cases x with
  |mp k'=>
   obtain⟨b',e1,e2⟩:=zgd hx;show RV g.I g.ρ (bif k'.beq k then .val (.map (some b))else .mp k') v;cases hb:k'.beq k
   ·exact hx
   ·have:k'=k:=by simpa using hb
    subst this;rw[h1]at e2;injection e2 with e2;injection e2 with e2;subst e2;rw[e1];exact .val _
  |_=>exact hx.cln (λ_ _=>rfl)
 obtain⟨gF,T⟩:=hi b _ _ _ U;exact⟨b,gF,T,zd H,es,ck,H,h5.1,λi e p he E=>⟨(G i e p he E).1.flat (Z _),(G i e p he E).2.flat (V _)⟩⟩
def zmz{stF:St}(hi:Imp C st stF){g:Gh}{a:Act}{w:World}(hr:Rel C st g a w):∃(_:Unit)(gF:Gh),Rel C stF gF a w/\(λ(_:Im)(_:Owns)(_:World)=>True) gF.I gF.O w:=
 let⟨g',h⟩:=hi g a w hr;⟨(),g',h,trivial⟩
def zzw{H:Hyp}(Z:∀g a w,Rel C st g a w->H g.I g.O w){g:Gh}{a:Act}{w:World}(hr:Rel C st g a w):∃(_:Unit)(gF:Gh),Rel C st gF a w/\H gF.I gF.O w:=⟨(),g,hr,Z g a w hr⟩
end
section
variable{P:Program}{C:Ctx}{st:St}{ty:TypeId}{Q:Exit->St->Prop}{ops:Array Oper}{i:Nat}{fs:List FactM}{o:Oper}{x:AV}{nb:Option (Nat×Blk)}
def ChM.lg{ms:List Nat}{hid:List Nat}{m:Nat}{d gi t:Nat}{want b:Bool}{g0:List (Nat×Bool)}{f:FuncId}{caps xs:List AV}{fop:Operand}{args:Array Operand}{ts:Array TypeId}{H:Hyp}(J:∀st g a w,Rel C st g a w->H g.I g.O w)(G:FnW P f (xs++caps) x H)(h:ChM P C ops ms st hid Q (i+1) (⟨i,some d,x,none,m,(gi,want)::g0⟩::fs))(hm:ms[i]? =some m:=by exact rfl)(ho:ops[i]? =some o:=by exact rfl)(E:o.guard=some (gi,want):=by exact rfl)(Z:o.dst=some d:=by exact rfl)(hi:(ops[gi]?).bind (·.dst)=some t:=by exact rfl)
 (xT:zcv fs gi=g0:=by first|exact(rfl:_=[])|exact(rfl:_=[_])|exact(rfl:_=[_,_])|exact(rfl:_=[_,_,_]))(hb:lk (stR st hid m fs).t t=some (optV (zi fs g0) g0 (.bool b)):=by exact rfl)(V:zaQ fs gi want=(b==want):=by exact rfl)(U:zc7 fs ((gi,want)::g0)=true:=by exact rfl)
 (T:o.op=.call {callee:=.value fop,args:=args,argTypes:=ts}:=by exact rfl)(hf:ev (stV st hid m fs ((gi,want)::g0)) fop=some (.fn f caps):=by exact rfl)(hx:evs (stV st hid m fs ((gi,want)::g0)) args.toList=some xs:=by exact rfl)(hn:AV.nm.nmL (xs++caps)=true:=by exact rfl)(N:x.flat=true:=by exact rfl)(hd:d.blt C.n=true:=by exact rfl):ChM P C ops ms st hid Q i fs:=
 .guard hm ho E hi hb rfl V (zaW U) (λe=>by rw[T];exact zwX (ι:=Unit) (H:=λ_=>H) (stF:=λ_=>stV st hid m fs ((gi,want)::g0)) (λg a w hr=>zzw (J _) hr) (caps:=λ_=>caps) (xs:=λ_=>xs) (λ_=>G) (λ_=>hf) (λ_=>hx) (λ_=>hn) (λ_=>LeL.refl _) N) (by rw[Z];exact hd) (by rw[Z];exact h)
end
end Go.Rse
namespace Go.Rse
open Go Go.RowKit
open Go.ChangeMaps (setBlock)
section plain
variable{κ α:Type}[DecidableEq κ]
def kix(q:κ):List (κ×α)->Nat->Option Nat
 |[],_=>none
 |p::r,i=>if q=p.1 then some i else kix q r (i+1)
def kput(q:κ)(x:α)(l:List (κ×α)):List (κ×α):=match kix q l 0 with
 |some i=>l.set i (q,x)
 |none=>l++[(q,x)]
def zmA{P:Program}{w:World}{K:TypeId}{kv:κ->Value}{q:κ}(V:∀x y,(Op.equal K (kv x) (kv y)).run P w=.ok (decide (x=y)) w):∀(l:List (κ×α))(es:List MapEntry)(i:Nat),es.length=l.length->(∀(j:Nat)e p,es[j]? =some e->l[j]? =some p->e.key=kv p.1)→
 (kix q l i=none/\(Instr.findAsking K (kv q) es i).run P w=.ok none w)\/∃j e x,kix q l i=some (i+j)/\(Instr.findAsking K (kv q) es i).run P w=.ok (some (i+j,e.val)) w/\es[j]? =some e/\l[j]? =some (q,x)
 |[],[],i,_,_=>.inl ⟨rfl,rfl⟩
 |[],_::_,i,h,_=>by simp at h
 |_::_,[],i,h,_=>by simp at h
 |p::l,e::es,i,hl,J=>by
  have N:e.key=kv p.1:=J 0 e p rfl rfl;have he:=V q p.1;rw[←N]at he;by_cases Z:q=p.1
  ·refine .inr ⟨0,e,p.2,by simp[kix,Z],?_,rfl,by rw[Z];rfl⟩;simp only[Instr.findAsking,jK,he,j9,w5,j3 Z,jL,uN]
  ·rcases zmA V (q:=q) l es (i+1) (by simpa using hl) (λj e' p' U T=>J (j+1) e' p' U T)with⟨U,T⟩|⟨j,e',x,U,T,I,H⟩
   ·exact .inl ⟨by simp[kix,Z,U],by simp[Instr.findAsking,he,Z,T]⟩
   ·refine .inr ⟨j+1,e',x,by simp[kix,Z,U];omega,?_,I,H⟩;simp only[Instr.findAsking,jK,he,j9,w5,Z,if_false,T];congr 2;simp;omega
def zpi(q:κ)(x:α)(l:List (κ×α)):(kput q x l).map (·.1)=if q∈l.map (·.1)then l.map (·.1)else l.map (·.1)++[q]:=by
 have key:∀(l:List (κ×α))(i:Nat),(kix q l i=none/\q∉l.map (·.1))\/∃j y,kix q l i=some (i+j)/\l[j]? =some (q,y):=by
  intro l
  induction l with
  |nil=>intro i;exact .inl ⟨rfl,by simp⟩
  |cons p l ih=>
   intro i;by_cases U:q=p.1
   ·exact .inr ⟨0,p.2,by simp[kix,U],by rw[U];rfl⟩
   ·rcases ih (i+1)with⟨V,Z⟩|⟨j,y,V,Z⟩
    ·exact .inl ⟨by simp[kix,U,V],by simpa[U]using Z⟩
    ·exact .inr ⟨j+1,y,by simp[kix,U,V];omega,Z⟩
 unfold kput;rcases key l 0 with⟨V,Z⟩|⟨j,y,V,Z⟩
 ·rw[V,j4 Z];simp
 ·rw[vM]at V;rw[V,j3 (jW.2 ⟨_,j6 Z,rfl⟩)];simp only;apply uR;intro i;rw[jO,jO,vN];split
  ·next e=>
   subst e;split
   ·rw[Z];rfl
   ·next T=>exact absurd (j1.1 Z).1 T
  ·rfl
end plain
structure KeyL(P:Program)(K:TypeId){κ:Type}[DecidableEq κ](kenc:κ->AV)(kv:κ->Value):Prop where
 val:∀I ρ x v,RV I ρ (kenc x) v->v=kv x
 of:∀I ρ x,RV I ρ (kenc x) (kv x)
 chk:∀em w x,(Instr.checkKey em 10000 K (kv x)).run P w=.ok () w
 wide:(match P.underlying K with|some (.array _ _)|some (.struct _)=>true|_=>false)=true
 eq:∀w x y,(Op.equal K (kv x) (kv y)).run P w=.ok (decide (x=y)) w
 stay:∀w x,(Instr.keyThatStays (kv x) (kv x)).run P w=.ok (kv x) w
section
variable{P:Program}{C:Ctx}{st:St}{ty:TypeId}{Q:Exit->St->Prop}
def zd4{κ α:Type}[DecidableEq κ]{kenc:κ->AV}{kv:κ->Value}{venc:α->AV}{l:List (κ×α)}{t K E:TypeId}{x y z:Operand}{k:Nat}{q:κ}{u c:AV}(v:α)(L:KeyL P K kenc kv)(hx:ev st x=some (.mp k))(hk:lk st.h k=some (.mpb kenc venc l))(hy:ev st y=some c)(hc:c=kenc q)
 (hz:ev st z=some u)(hu:u=venc v)(ht:P.underlying t=some (.map K E))(hf:∀v k,(venc v).fr k=true):
 yC P C (.mapUpdate t x y z) ty none st (putH st k (.mpb kenc venc (kput q v l))):=λg a w pos af gd hr K' hK=>by
 subst hc;obtain⟨b,es,ck,h1,J,H,N,V,h6⟩:=hr.sat.blk k _ hk
 have ex:a.eval x=.map (some b):=by
  obtain⟨b',e1,e2⟩:=zgd (yy hr hx);rw[e1,←e2,h1]
 have ey:a.eval y=kv q:=L.val _ _ _ _ (yy hr hy);have ez:RV g.I noNames (venc v) (a.eval z):=(hu▸yy hr hz).forget' (hf v);have U:∀(j:Nat)e p,es.toList[j]? =some e->l[j]? =some p->e.key=kv p.1:=λj e p he Z=>L.val _ _ _ _ (h6 j e p (by simpa using he) Z).1
 have G:=run_findKey_eq w L.wide (kv q) es.toList;rcases zmA (P:=P) (w:=w) (q:=q) (L.eq w) l es.toList 0 (by simpa using V.1) U with⟨m1,m2⟩|⟨j,e,v0,m1,m2,m3,m4⟩
 ·rw[m2]at G
  have er:(Instr.mapUpdate t (.map (some b)) (kv q) (a.eval z)).run P w=.ok () {w with heap:=w.heap.setIfInBounds b (.map (es.push {key:=kv q,val:=a.eval z,born:=ck}) (ck+1))}:=by
   simp[Instr.mapUpdate,run_underlying ht,MapKept.run_getObj_map N,L.chk,G,MapKept.run_setObj_map _ N,Result.andThen]
  simp only[wp1,execOp,ex,ey,jK,er,j9,jL,zcn];refine hK _ _ _ (hr.modify J H (zbL N) (jD _) ⟨b,_,_,h1,J,H,(MapKept.heap_set N).1,⟨?_,?_,?_⟩,?_⟩)
  ·simp[kput,m1,V.1]
  ·simp[kput,m1,V.2.1]
  ·intro i e he;rw[vT]at he;split at he
   ·next T=>injection he with he;subst he;rw[T];exact V.2.1.trans V.1.symm
   ·exact V.2.2 i e he
  ·intro i e p he Z;simp only[kput,m1]at Z;rw[vT]at he;rw[uP]at Z;have x4:=V.1;by_cases hi:i<es.size
   ·rw[j4 (by omega)]at he;rw[j3 (by omega)]at Z;exact h6 i e p he Z
   ·split at he
    ·next T=>
     injection he with he;subst he;rw[j4 (by omega)]at Z;have:i-l.length=0:=by omega
     rw[this]at Z;simp at Z;subst Z;exact⟨L.of _ _ _,ez⟩
    ·rw[uT (by omega)]at he;simp at he
 ·simp only[vM]at m1 m2;rw[m2]at G;have xT:e.key=kv q:=U j e _ m3 m4;have hj:es[j]? =some e:=by simpa using m3
  have er:(Instr.mapUpdate t (.map (some b)) (kv q) (a.eval z)).run P w=.ok () {w with heap:=w.heap.setIfInBounds b (.map (es.modify j λe=>{e with key:=kv q,val:=a.eval z}) ck)}:=by
   simp[Instr.mapUpdate,run_underlying ht,MapKept.run_getObj_map N,L.chk,G,hj,xT,L.stay,MapKept.run_setObj_map _ N,Result.andThen]
  simp only[wp1,execOp,ex,ey,jK,er,j9,jL,zcn];refine hK _ _ _ (hr.modify J H (zbL N) (jD _) ⟨b,_,_,h1,J,H,(MapKept.heap_set N).1,⟨?_,?_,?_⟩,?_⟩)
  ·simp[kput,m1,V.1]
  ·simp[kput,m1,V.2.1]
  ·intro i e' he;rw[uJ]at he;split at he
   ·next T=>
    subst T;rw[hj]at he;simp at he;subst he;exact V.2.2 j e hj
   ·exact V.2.2 i e' he
  ·intro i e' p he Z;simp only[kput,m1]at Z;rw[uJ]at he;rw[vN]at Z;by_cases hi:j=i
   ·subst hi;rw[j3 rfl]at he Z;rw[hj]at he;simp at he;subst he;split at Z
    ·injection Z with Z;subst Z;exact⟨L.of _ _ _,ez⟩
    ·simp at Z
   ·rw[j4 hi]at he Z;exact h6 i e' p he Z
def zwY{ops:Array Oper}{rest:List Oper}{d:Nat}{pos:String}{af:Array Edge}{κ α:Type}{kenc:κ->AV}{venc:α->AV}{l:List (κ×α)}{t K E:TypeId}{x:Operand}{k:Nat}(kh:Nat)
 (h:∀b bm,Ex P C ops rest ⟨(d,.val (.pointer (some ⟨b,0,none⟩)))::st.t,(kh,.hold [.map (some bm)] [.mp k])::(d,.obj b (.mapIter (some bm) l.length #[] l.length))::st.h⟩ Q)
 (hx:ev st x=some (.mp k):=by exact rfl)(N:lk st.h k=some (.mpb kenc venc l):=by exact rfl)(ht:P.underlying t=some (.map K E):=by exact rfl)(I:dOk C.n (some d)=true:=by exact rfl)(Z:st.fr d=true:=by exact rfl):
 Ex P C ops ({dst:=some d,op:=.range t x,type:=ty,pos:=pos,after:=af,guard:=none}::rest) st Q:=λg a w hr=>by
 obtain⟨b,es,ck,J,h2,h3,H,G,h6⟩:=hr.sat.blk k _ N
 have ex:a.eval x=.map (some b):=by
  obtain⟨b',e1,e2⟩:=zgd (yy hr hx);rw[e1,←e2,J]
 have V:k≠d:=λe=>by
  subst e;have:=(zcW (k:=k) (l:=st.h) (by unfold St.fr at Z;simp at Z;exact Z.2) N).2;exact this rfl
 have er:=run_range_map w t K E b es ck ht H;rw[G.2.1]at er;refine wpListIn_plain rfl λK' hK=>zau ?_
 simp only[wp1,execOp,ex,jK,er,j9,jL,zcn];refine hK _ _ ?_
 have h7:Rel C (addSt st (some d) (.val (.pointer (some ⟨w.heap.size,0,none⟩))) (some (d,.obj w.heap.size (.mapIter (some b) l.length #[] l.length)))) (g.nw C.d w.heap.size d .nilIface) (a.put (some d) (.pointer (some ⟨w.heap.size,0,none⟩))) (w.alloc (.mapIter (some b) l.length #[] l.length)):=
  hr.addSt (Add.nw (Grow.alloc _ _) C.d d _) I Z (.val _) (ImOB.nw ⟨hr.sat.im,hr.sat.ob⟩ (Grow.alloc _ _) (by simp) C.d d _).1 (ImOB.nw ⟨hr.sat.im,hr.sat.ob⟩ (Grow.alloc _ _) (by simp) C.d d _).2 λk' B U=>by
   injection U with U;injection U with e1 e2;subst e1;subst e2;exact⟨heap_alloc_new w _,by simp[Gh.nw],.inl hr.ext.size⟩
 exact h _ _ _ _ _ (h7.withBlk (k:=kh) (B:=.hold [.map (some b)] [.mp k]) ⟨rfl,λj c v T hv=>by
  cases j with
  |zero=>simp at T hv;subst T;subst hv;exact .mp k b (by simp[Gh.nw,V,J])
  |succ j=>simp at T⟩)
def Ex.nxt{ops:Array Oper}{rest:List Oper}{d e:Nat}{ty':TypeId}{pos pos':String}{af af':Array Edge}{κ α:Type}{kenc:κ->AV}{venc:α->AV}{l:List (κ×α)}{x:Operand}{k b bm kb kh c0:Nat}{seen:Array Nat}
 (h:∀(mo:Bool)(i:Nat),(mo=false->∀i,i<l.length->seen.contains i=true)->(mo=true->i<l.length/\seen.contains i=false)→
  Ex P C ops rest ⟨(e,.bool mo)::(d,.any)::st.t,(kb,.obj b (.mapIter (some bm) l.length (bif mo then seen.push i else seen) (bif mo then l.length else c0)))::st.h⟩ Q)
 (hc:l.length<=c0:=by exact jD _)
 (hx:ev st x=some (.val (.pointer (some ⟨b,0,none⟩))):=by exact rfl)(hb:lk st.h kb=some (.obj b (.mapIter (some bm) l.length seen c0)):=by exact rfl)(hh:lk st.h kh=some (.hold [.map (some bm)] [.mp k]):=by exact rfl)(hk:lk st.h k=some (.mpb kenc venc l):=by exact rfl)
 (hd:dOk C.n (some d)=true:=by exact rfl)(he:dOk C.n (some e)=true:=by exact rfl):
 Ex P C ops ({dst:=some d,op:=.next x false,type:=ty,pos:=pos,after:=af,guard:=none}::{dst:=some e,op:=.extract (.tmp d) 0,type:=ty',pos:=pos',after:=af',guard:=none}::rest) st Q:=λg a w hr=>by
 obtain⟨b',es,ck,h1,h2,h3,h4,N,h6⟩:=hr.sat.blk k _ hk;obtain⟨q1,q2,q3⟩:=hr.sat.blk kb _ hb
 have x4:bm=b':=by
  obtain⟨_,q⟩:=hr.sat.blk kh _ hh;obtain⟨b2,e1,e2⟩:=zgd (q 0 _ _ rfl rfl);rw[h1]at e2;injection e1 with e1;injection e1 with e1;injection e2 with e2;injection e2 with e2;rw[e1,e2]
 subst x4;have ex:a.eval x=.pointer (some ⟨b,0,none⟩):=zbF (yy hr hx)
 have J:∀y∈es.toList,∃i,es[i]? =some y/\i<l.length:=λy hy=>by
  obtain⟨i,hi⟩:=jP.1 hy;have Z:es[i]? =some y:=by simpa using hi
  refine⟨i,Z,?_⟩;rw[←N.1];exact(wJ.1 Z).1
 have I:d<a.tmps.size:=by rw[hr.size];simpa[dOk]using hd
 have fin:∀(mo:Bool)(i:Nat)(w1 w2:World)(v:Value),(mo=false->∀i,i<l.length->seen.contains i=true)->(mo=true->i<l.length/\seen.contains i=false)->(w1=w\/w1=w.drew)→
  w2=(bif mo then setBlock w1 b (.mapIter (some bm) l.length (seen.push i) l.length)else w1)->(Instr.next (.pointer (some ⟨b,0,none⟩)) false ty).run P w=.ok v w2->(∃r,v=.tuple r/\r[0]? =some (.bool mo))→
  wpListIn C.F 0 P ops (lift C Q) ({dst:=some d,op:=.next x false,type:=ty,pos:=pos,after:=af,guard:=none}::{dst:=some e,op:=.extract (.tmp d) 0,type:=ty',pos:=pos',after:=af',guard:=none}::rest) a w:=by
  intro mo i w1 w2 v x3 x2 H x1 G hv;obtain⟨r,rfl,x0⟩:=hv;refine wpListIn_plain rfl λK' hK=>zau ?_
  simp only[wp1,execOp,ex,jK,G,j9,jL,zcn];refine hK _ _ ?_;refine wpListIn_plain rfl λK' hK=>zau ?_
  have ee:(a.put (some d) (.tuple r)).eval (.tmp d)=.tuple r:=by
   simp[Act.eval,Act.put,I]
  simp only[wp1,execOp,ee,Instr.extract,x0,jK,j9,jL,zcn];refine hK _ _ ?_
  have E:Rel C st g a w1:=by
   rcases H with rfl|rfl
   ·exact hr
   ·exact hr.add (nk:=none) (d:=none) (x:=.any) (v:=.nilIface) ⟨Im.le_refl _,λ_ _=>rfl,λ_ _=>rfl,Grow.drew w⟩ (λk h=>by simp at h) (λt h=>by simp at h) (.any _) hr.sat.im hr.sat.ob
  have V:w1.heap[b]? =w.heap[b]? :=by rcases H with rfl|rfl<;>rfl
  have U:Rel C (putH st kb (.obj b (.mapIter (some bm) l.length (bif mo then seen.push i else seen) (bif mo then l.length else c0)))) g a w2:=by
   subst x1;cases mo with
   |false=>exact E.withBlk ⟨V.trans q1,q2,q3⟩
   |true=>
    refine E.modify q2 q3 ⟨rfl,rfl,rfl,by simp[setBlock],λj hj v9=>?_⟩ (jD _) ⟨?_,q2,q3⟩
    ·have:b≠j:=λe=>v9 (by rw[e])
     simp[setBlock,u9,this]
    ·have v8:=zd (V.trans q1);simp[setBlock,u9,v8]
  have T:=U.addSt (nb:=none) (d:=some d) (x:=.any) (v:=.tuple r) (Add.refl _ g w2) hd rfl (.any _) U.sat.im U.sat.ob (λ_ _ h=>by cases h);have v5:=T.addSt (nb:=none) (d:=some e) (x:=.bool mo) (v:=.bool mo) (Add.refl _ g w2) he rfl (.bool _) T.sat.im T.sat.ob (λ_ _ h=>by cases h);exact h mo i x3 x2 g _ w2 v5
 rcases run_next_at (P:=P) w ty b bm l.length c0 seen es ck q1 h4 (λy hy=>by
  obtain⟨i,hi,hl⟩:=J y hy;rw[N.2.2 i y hi];exact hl) hc with⟨n1,n2⟩|⟨y,n1,w1,n2,n3⟩
 ·refine fin false 0 w w _ (λ_ i hi=>?_) (by simp) (.inl rfl) rfl n2 ⟨_,rfl,rfl⟩;have Z:i<es.size:=by rw[N.1];exact hi
  cases v4:seen.contains i with
  |true=>rfl
  |false=>
   have hm:es[i]∈leftOf es seen:=by
    unfold leftOf;refine Array.mem_filter.2 ⟨Array.getElem_mem Z,?_⟩;rw[N.2.2 i _ (jV Z),v4];rfl
   have:=Array.size_pos_of_mem hm;omega
 ·have hl:=mem_left n1;obtain⟨i,hi,v3⟩:=J y hl.1;have xT:=N.2.2 i y hi;rw[xT,N.2.1]at n3;rw[xT]at hl;exact fin true i w1 _ _ (by simp) (λ_=>⟨v3,hl.2⟩) n2 rfl n3 ⟨_,rfl,rfl⟩
def ztk{κ α:Type}{kenc:κ->AV}{venc:α->AV}{l:List (κ×α)}{x:Operand}{k b bm kb kh i:Nat}{seen:Array Nat}(p:κ×α)(G:l[i]? =some p)
 (hx:ev st x=some (.val (.pointer (some ⟨b,0,none⟩))))(E:lk st.h kb=some (.obj b (.mapIter (some bm) l.length (seen.push i) l.length)))(hh:lk st.h kh=some (.hold [.map (some bm)] [.mp k]))(hk:lk st.h k=some (.mpb kenc venc l))
 (hf:∀v k,(kenc v).fr k=true)(hg:∀v k,(venc v).fr k=true):
 Pur P C (.entry x) ty st (.tup [kenc p.1,venc p.2]):=λg a w dst pos af gd hr=>by
 obtain⟨b',es,ck,h1,h2,h3,h4,V,h6⟩:=hr.sat.blk k _ hk;obtain⟨q1,q2,q3⟩:=hr.sat.blk kb _ E
 have J:bm=b':=by
  obtain⟨_,q⟩:=hr.sat.blk kh _ hh;obtain⟨b2,e1,e2⟩:=zgd (q 0 _ _ rfl rfl);rw[h1]at e2;injection e1 with e1;injection e1 with e1;injection e2 with e2;injection e2 with e2;rw[e1,e2]
 subst J;have ex:a.eval x=.pointer (some ⟨b,0,none⟩):=zbF (yy hr hx);have U:i<es.size:=by rw[V.1];exact(j1.1 G).1
 have hi:es[i]? =some es[i]:=jV U;have Z:=V.2.2 i _ hi;rw[←Z,←V.2.1]at q1;rw[V.2.1]at q1
 have I:(es.toList.map (·.born)).Nodup:=by
  have:es.toList.map (·.born)=List.range es.size:=by
   apply uR;intro j;rw[jO,uX];by_cases H:j<es.size
   ·rw[vD H,jV H];exact j5 some (V.2.2 j _ (jV H))
   ·rw[uT (by omega),wR (by simp;omega)];rfl
  rw[this];exact List.nodup_range
 have T:=run_entry_at (P:=P) w b bm l.length seen es ck es[i] (by rw[Z];rw[Z]at q1;rw[V.2.1];exact q1) h4 (Array.getElem_mem U|>Array.mem_toList_iff.2) I;obtain⟨r1,r2⟩:=h6 i _ p hi G;refine⟨.tuple #[es[i].key,es[i].val],?_,?_⟩
 ·simp only[execOp,ex,jK,T,j9,jL]
 ·refine .tup _ [es[i].key,es[i].val] rfl λj c u N hv=>?_
  rcases j with _|_|j
  ·simp at N hv;subst N;subst hv;exact r1.forget' (hf _)
  ·simp at N hv;subst N;subst hv;exact r2.forget' (hg _)
  ·simp at N
end
end Go.Rse
namespace Go.Rse
open Go Go.RowKit
section
variable{P:Program}{C:Ctx}{st:St}{ty:TypeId}
end
def zM{P:Program}{C:Ctx}{Q:Exit->St->Prop}{st:St}{c:Code}(I:Nat->List (Nat×AV))(H:Nat->List (Nat×Blk))(J:Nat->Prop)(n:Nat)(h:∀i,J i->X P C c ⟨I i,H i⟩ (zdH (λst'=>∃i',Imp C st' ⟨I i',H i'⟩/\J i'/\n-i'<n-i) Q))(hJ:J 0:=by first|trivial|omega|(refine⟨?_,?_⟩<;>omega))(h0:Imp C st ⟨I 0,H 0⟩:=by exact yi):X P C (.loop c) st Q:=zd3 I H J (λk=>n-k) 0 h hJ h0
def zu{P:Program}{C:Ctx}{Q:Exit->St->Prop}{st:St}{c:Code}(I:Nat->List (Nat×AV))(H:Nat->List (Nat×Blk))(n:Nat)(h:∀i,i<=n->X P C c ⟨I i,H i⟩ (zdH (λst'=>∃i',Imp C st' ⟨I i',H i'⟩/\i'<=n/\n-i'<n-i) Q))(h0:Imp C st ⟨I 0,H 0⟩:=by exact yi):X P C (.loop c) st Q:=zd3 I H (λk=>k<=n) (λk=>n-k) 0 h (w7 _) h0
def zE{p:Prop}{α:Sort _}{a b:α}(q:a=b)(h:a=b->p:=by intro q;first|(rw[q];done)|(rw[q];rfl)):p:=h q
def zR{p:Prop}(h:p:=by first|rfl|(simp_all;done)):p:=h
structure Hd(Q:Prop):Prop where
 h:Q
def gq{P Q:Prop}(k:Q)(h:Hd Q→P:=by intro k;(repeat'(first|apply yG|apply zkc|apply ye|apply Ex.nil|apply yf|apply yj|apply yk|apply X.block|apply X.ret|apply X.exit|apply X.scope|(show Ex _ _ _ (_::_) _ _;first|refine ya ?_|refine zH ?_|refine zk ?_|refine Ex.mo ?_)|(show ExF _ _ _ _ _ _ _;first|refine ExF.gi ?_|refine yp ?_)|(show RetQ _ _ [.tmp _] _ _ _;refine zav ?_)));exact k.h):P:=h ⟨k⟩
def gd{P Q R:Prop}(k:Q)(l:R)(h:Hd Q→Hd R→P:=by intro k l;(repeat'(first|apply yG|apply zkc|apply ye|apply Ex.nil|apply yf|apply yj|apply yk|apply X.block|apply X.ret|apply X.exit|apply X.scope|(show Ex _ _ _ (_::_) _ _;first|refine ya ?_|refine zH ?_|refine zk ?_|refine Ex.mo ?_)|(show ExF _ _ _ _ _ _ _;first|refine ExF.gi ?_|refine yp ?_)|(show RetQ _ _ [.tmp _] _ _ _;refine zav ?_)));refine zwW rfl ?_ ?_;exact k.h;exact l.h):P:=h ⟨k⟩ ⟨l⟩
def ge{P Q:Prop}(k:Q)(h:Hd Q→P:=by intro k;apply zdK;(repeat'(first|apply yG|apply zkc|apply ye|apply Ex.nil|apply yf|apply yj|apply yk|apply X.block|apply X.ret|apply X.exit|apply X.scope|(show Ex _ _ _ (_::_) _ _;first|refine ya ?_|refine zH ?_|refine zk ?_|refine Ex.mo ?_)|(show ExF _ _ _ _ _ _ _;first|refine ExF.gi ?_|refine yp ?_)|(show RetQ _ _ [.tmp _] _ _ _;refine zav ?_)));exact k.h):P:=h ⟨k⟩
def gf{P Q R:Prop}(k:Q)(l:R)(h:Hd Q→Hd R→P:=by intro k l;apply zdK;(repeat'(first|apply yG|apply zkc|apply ye|apply Ex.nil|apply yf|apply yj|apply yk|apply X.block|apply X.ret|apply X.exit|apply X.scope|(show Ex _ _ _ (_::_) _ _;first|refine ya ?_|refine zH ?_|refine zk ?_|refine Ex.mo ?_)|(show ExF _ _ _ _ _ _ _;first|refine ExF.gi ?_|refine yp ?_)|(show RetQ _ _ [.tmp _] _ _ _;refine zav ?_)));refine zwW rfl ?_ ?_;exact k.h;exact l.h):P:=h ⟨k⟩ ⟨l⟩
def zwZ{α:Type}{P:Program}{C:Ctx}{st:St}{ty:TypeId}{enc:α→List AV}{l:List α}{t E:TypeId}{ag:Bool}{s n:Nat}{parts:Array (Nat×Operand)}{ps:List (Nat×AV)}{z:Value}(ht:slOk P t E=true)(hE:tyOk P E ag s=true)(U:(P.info? E).bind (·.zero)=some z)(Z:0<s:=by decide)(T:zbJ st parts.toList=some ps:=by exact rfl)(N:zcu ps=true:=by exact rfl)(hf:zfG (λi=>some (i*s,s)) (List.replicate (n*s) .any) ps=some (l.flatMap enc):=by exact rfl)(V:l.length=n:=by exact rfl)(J:n*s≤16777216:=by decide)(hm:n≤1000000:=by decide)(hs:∀x,(enc x).length=s:=by exact(λ_=>rfl))(hnm:AV.nm.nmL (l.flatMap enc)=true:=by exact rfl):yA P C (.buildSlice t n parts) ty st (.sl enc l) none:=yu ht hE U Z T N hf V J hm hs hnm
def gc{P':Program}{f:FuncId}{az:List AV}{r:AV}{P Q:Prop}(c:Fn P' f az r)(k:Q)(h:Fn P' f az r→Hd Q→P:=by intro c k;(repeat'(first|apply yG|apply zkc|apply ye|apply Ex.nil|apply yf|apply yj|apply yk|apply X.block|apply X.ret|apply X.exit|apply X.scope|(show Ex _ _ _ (_::_) _ _;first|refine ya ?_|refine zH ?_|refine zk ?_|refine Ex.mo ?_)|(show ExF _ _ _ _ _ _ _;first|refine ExF.gi ?_|refine yp ?_)|(show RetQ _ _ [.tmp _] _ _ _;refine zav ?_)));refine yP c ?_;(repeat'(first|apply yG|apply zkc|apply ye|apply Ex.nil|apply yf|apply yj|apply yk|apply X.block|apply X.ret|apply X.exit|apply X.scope|(show Ex _ _ _ (_::_) _ _;first|refine ya ?_|refine zH ?_|refine zk ?_|refine Ex.mo ?_)|(show ExF _ _ _ _ _ _ _;first|refine ExF.gi ?_|refine yp ?_)|(show RetQ _ _ [.tmp _] _ _ _;refine zav ?_)));exact k.h):P:=h c ⟨k⟩
def k8:=@Pur.stepA
def k9:=@Imp.freeze
def kA:=@RetQ.imp
def kB:=@X.block
def kC:=@LeV.eq
def kE:=@X.ret
def kF:=@Fn.go
def kG:=@ExF.gi
def kH:=@LeV.refl
def kI:=@ExF.at
def kJ:=@X.imp
def kK:=@Ex.mo
def kL:=@RetQ.ret
def kM:=@ChM.gi
def kO:=@X.exit
def kP:=@LeV.nils
def kQ:=@Ex.nil
def kR:=@LeB.refl
def kS:=@LeL.refl
def kT:=@Ex.stepA
def kU:=@Ex.imp
def kV:=@LeB.eq
def kW:=@X.drawQ
def kX:=@FnO.introX
def kY:=@Imp.of
def kZ:=@ChM.cg
def bA:=@ExF.cg
def bB:=@LeB.row
def bC:=@LeB.box
def bD:=@Imp.mv
def bE:=@Im.le_refl
def bF:=@FnO.intro
def bG:=@LeV.any
end Go.Rse
