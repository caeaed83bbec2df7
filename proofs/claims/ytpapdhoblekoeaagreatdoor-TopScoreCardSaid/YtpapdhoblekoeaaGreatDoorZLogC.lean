/-
  The program's data as plain structures, and how they lie in memory.
  Structs held against each other, by type.
  Short forms: rules whose premises are looked for by themselves.
  Functions that are handed blocks and leave more of their own; calls of such, in short form.
  Shifts and bits of small ints.
  Maps of one's own by ints: make, update, lookup with its word.
  What holds at a point, with facts on boxes at hand; the zero value of a map's elements.
  Copies into a row of one's own, its head as a slice, functions held against nil, operations behind a guard that is shut.
  The logic: a part of a row, read.
  Rules: blocks of one's own are lent for a call that only reads; maps that do not change.
  Maps of one's own by structs of two integers: update; range over a map of one's own.
  A row's tail is cleared: its zero may hold nil slices.
-/
import Derived.Test.YtpapdhoblekoeaaGreatDoorZTy
import Derived.Test.YtpapdhoblekoeaaGreatDoorZLogB
import Derived.MapKept
import Derived.WideKeyRuns
import Derived.ChangeKeysEq
import Derived.Maps.RangeRun
set_option linter.all false
namespace Go.Rse
open Go Go.RowKit
structure Mn where
 Max:Int
 Mod:Int
 Tem:Int
 Pro:Int
 deriving DecidableEq
structure Tm where
 N:Int
 D:Int
 deriving DecidableEq
structure Sg where
 Kind:Int
 Value:Int
 Place:Int
 Acc:Int
 Color:Bool
 Stem:Int
 Oblique:Bool
 Last:Bool
 Mens:Mn
 Stroke:Bool
 N:Int
 D:Int
 CStep:Int
 CLine:Int
 deriving DecidableEq
instance:Inhabited Mn:=⟨⟨0,0,0,0⟩⟩
instance:Inhabited Tm:=⟨⟨0,0⟩⟩
instance:Inhabited Sg:=⟨⟨0,0,0,0,false,0,false,false,⟨0,0,0,0⟩,false,0,0,0,0⟩⟩
abbrev iv(n:Int):AV:=.int .i64 n
def intE:Int->List AV:=λn=>[.int .i64 n]
def zak:Bool->List AV:=λb=>[.bool b]
def mnE:Mn->List AV:=λm=>[.int .i64 m.Max,.int .i64 m.Mod,.int .i64 m.Tem,.int .i64 m.Pro]
def tmE:Tm->List AV:=λt=>[.int .i64 t.N,.int .i64 t.D]
def sgE:Sg->List AV:=λs=>[.int .i64 s.Kind,.int .i64 s.Value,.int .i64 s.Place,.int .i64 s.Acc,.bool s.Color,.int .i64 s.Stem,.bool s.Oblique,.bool s.Last,.int .i64 s.Mens.Max,.int .i64 s.Mens.Mod,.int .i64 s.Mens.Tem,.int .i64 s.Mens.Pro,.bool s.Stroke,.int .i64 s.N,.int .i64 s.D,.int .i64 s.CStep,.int .i64 s.CLine]
def zcZ:List Int->List AV:=λl=>[.sl intE l]
abbrev yj(l:List Int):AV:=.sl intE l
abbrev zhm(l:List Bool):AV:=.sl zak l
abbrev mnA(m:Mn):AV:=.agg (mnE m)
abbrev tmA(t:Tm):AV:=.agg (tmE t)
abbrev sgA(s:Sg):AV:=.agg (sgE s)
abbrev sgsA(l:List Sg):AV:=.sl sgE l
abbrev tmsA(l:List Tm):AV:=.sl tmE l
abbrev zmd(l:List (List Int)):AV:=.sl zcZ l
end Go.Rse
namespace Go.Rse
open Go Go.RowKit
section
variable{P:Program}{C:Ctx}{st:St}{ty:TypeId}
variable{L:List Nat}{b:Bool}{d n:Nat}{t:TypeId}{x y:Operand}{yt:TypeId}
def zqr{xs ys:List AV}(h:(eqOk P d t&&decide (d<=10000))=true)(N:flat P d t=L)(hm:P.eqGuardType P.depth t=false)(ht:tyOk P t true n=true)(hx:ev st x=some (.agg xs))(K:ev st y=some (.agg ys))(hn:xs.length=n)(kx:xs.map kAV=L)(ky:ys.map kAV=L)(he:eqL xs ys=some b):
 Pur P C (.binOp .eql t x y yt) ty st (.bool b):=zsW h N hm (hn▸ht) hx K kx ky he
def zqs{xs ys:List AV}(h:(eqOk P d t&&decide (d<=10000))=true)(N:flat P d t=L)(hm:P.eqGuardType P.depth t=false)(ht:tyOk P t true n=true)(hx:ev st x=some (.agg xs))(K:ev st y=some (.agg ys))(hn:xs.length=n)(kx:xs.map kAV=L)(ky:ys.map kAV=L)(he:eqL xs ys=some b):
 Pur P C (.binOp .neq t x y yt) ty st (.bool (!b)):=zsX h N hm (hn▸ht) hx K kx ky he
end
def yZ{x y:AV}{xs ys:List AV}{p q:Bool}(h:eqAV x y=some p)(N:eqL xs ys=some q):eqL (x::xs) (y::ys)=some (p&&q):=by simp only[eqL,h,N]
def zme(a b:Tm):eqL (tmE a) (tmE b)=some (decide (a=b)):=by
 cases a;cases b;refine(yZ rfl (yZ rfl rfl)).trans ?_;simp[Bool.decide_and]
def zpK(a b:Sg):eqL (sgE a) (sgE b)=some (decide (a=b)):=by
 obtain⟨a1,a2,a3,a4,a5,a6,a7,a8,⟨a9,a10,a11,a12⟩,a13,a14,a15,a16,a17⟩:=a;obtain⟨b1,b2,b3,b4,b5,b6,b7,b8,⟨b9,b10,b11,b12⟩,b13,b14,b15,b16,b17⟩:=b;refine(yZ rfl (yZ rfl (yZ rfl (yZ rfl (yZ rfl (yZ rfl (yZ rfl (yZ rfl (yZ rfl (yZ rfl (yZ rfl (yZ rfl (yZ rfl (yZ rfl (yZ rfl (yZ rfl (yZ rfl rfl))))))))))))))))).trans ?_;simp only[Sg.mk.injEq,Mn.mk.injEq,Bool.decide_and,Bool.and_assoc,Bool.and_true,Bool.beq_eq_decide_eq]
end Go.Rse
namespace Go.Rse
open Go Go.RowKit
variable{G:List (Nat×Bool)}{a:Act}{j:Nat}{w:World}
class EncK{α:Type}(enc:α->List AV)(s:outParam Nat):Prop where
 h:∀z,(enc z).length=s
instance:EncK intE 1:=⟨λ_=>rfl⟩
instance:EncK zak 1:=⟨λ_=>rfl⟩
instance:EncK tmE 2:=⟨λ_=>rfl⟩
instance:EncK sgE 17:=⟨λ_=>rfl⟩
class TyK(P:Program)(t:Nat)(ag:outParam Bool)(n:outParam Nat):Prop where
 h:tyOk P t ag n=true:=by kernel_rfl
class SlK(P:Program)(t:Nat)(E:outParam Nat):Prop where
 h:slOk P t E=true:=by kernel_rfl
class FoK(P:Program)(s f:Nat)(off:outParam Nat):Prop where
 h:yx P s f off=true:=by kernel_rfl
class TiK(P:Program)(E:Nat)(z:outParam Value)(s bytes:outParam Nat):Prop where
 h:y7 P E z s bytes
class ArK(P:Program)(t:Nat)(n E:outParam Nat):Prop where
 h:zba P t n E=true:=by kernel_rfl
class PlK(P:Program)(t:Nat)(pl:outParam (List (Nat×Nat))):Prop where
 h:ze P t=some pl/\y3 P t=true
class ZcK(P:Program)(t:Nat)(cs:outParam (List AV)):Prop where
 h:yF P t cs
class ZeK(P:Program)(t:Nat)(z:outParam Value):Prop where
 h:(P.info? t).bind (·.zero)=some z
class UnK(P:Program)(t:Nat)(k:outParam IntKind):Prop where
 h:P.underlying t=some (.int k)
class UsK(P:Program)(t:Nat):Prop where
 h:(P.underlying t).isSome=true
class EqK(P:Program)(t:Nat)(L:outParam (List Nat)):Prop where
 h:(eqOk P 5 t&&decide (5<=10000))=true/\flat P 5 t=L/\P.eqGuardType P.depth t=false
section
variable{P:Program}{C:Ctx}{st:St}{ty:TypeId}{Q:Exit->St->Prop}
variable{I:Im}{L:List Nat}{ag:Bool}{c:Operand}{fn:Func}{j:Nat}{kk:IntKind}{op:Op}{q:Int}{rv:List ResultVar}{s:Nat}{v:Value}{x y:Operand}{yt:TypeId}{α ι:Type}{ρ:Nat->Value}{l:List α}{u:α}
def zeE{t:TypeId}{xs ys:List AV}{b:Bool}{n:Nat}(he:eqL xs ys=some b)(h:EqK P t L)(ht:tyOk P t true n=true)(hx:ev st x=some (.agg xs))(N:ev st y=some (.agg ys))(hn:xs.length=n)(kx:xs.map kAV=L)(ky:ys.map kAV=L):
 Pur P C (.binOp .eql t x y yt) ty st (.bool b):=zqr h.h.1 h.h.2.1 h.h.2.2 ht hx N hn kx ky he
def zcK{t:TypeId}{xs ys:List AV}{b:Bool}{n:Nat}(he:eqL xs ys=some b)(h:EqK P t L)(ht:tyOk P t true n=true)(hx:ev st x=some (.agg xs))(N:ev st y=some (.agg ys))(hn:xs.length=n)(kx:xs.map kAV=L)(ky:ys.map kAV=L):
 Pur P C (.binOp .neq t x y yt) ty st (.bool (!b)):=zqs h.h.1 h.h.2.1 h.h.2.2 ht hx N hn kx ky he
def ziv{b:Bool}{x:AV}(h:RV I ρ (.opt b x) v):(b=true->RV I ρ x v)/\(b=false->v=.tuple #[]):=by
 cases h;exact⟨ai,ai⟩
def ztb{b y:Bool}(N:ev st c=some (.bool b))(hx:ev st x=some (.opt (b==true) (.bool y))):Pur P C (.pick c x (.const (.bool false))) ty st (.bool (b&&y)):=λg a w dst pos af gd hr=>by
 have ec:=z8 (yq hr N);cases b with
 |true=>
  have ex:=z8 ((ziv (yq hr hx)).1 rfl);exact⟨a.eval x,by simp[execOp,ec,asBool],by rw[ex];exact .bool _⟩
 |false=>
  have e0:a.eval (.const (.bool false))=.bool false:=rfl;exact⟨.bool false,by simp[execOp,ec,asBool,e0],.bool _⟩
def zDD{b y:Bool}(N:ev st c=some (.bool b))(hx:ev st x=some (.opt (b==false) (.bool y))):Pur P C (.pick c (.const (.bool true)) x) ty st (.bool (b||y)):=λg a w dst pos af gd hr=>by
 have ec:=z8 (yq hr N);cases b with
 |false=>
  have ex:=z8 ((ziv (yq hr hx)).1 rfl);exact⟨a.eval x,by simp[execOp,ec,asBool],by rw[ex];exact .bool _⟩
 |true=>
  have e0:a.eval (.const (.bool true))=.bool true:=rfl;exact⟨.bool true,by simp[execOp,ec,asBool,e0],.bool _⟩
def zob{enc:α->List AV}{t E:TypeId}{i:Int}(hx:ev st x=some (.sl enc l))(N:ev st y=some (.int kk i))
 (h:slOk P t E=true)(hs:tyOk P E ag s=true)[he:EncK enc s][Inhabited α](h0:0<=i)(h1:i<l.length):
 Pur P C (.indexAddr t x y) ty st (.ept enc (l.getD i.toNat default) 0):=zbS hx N h hs he.h h0 (by
 rw[jB,jC aa];rfl)
def zdY{enc:α->List AV}{t:TypeId}{n:Nat}{ys:List AV}(hx:ev st x=some (.ept enc u j))(hy:((enc u).drop j).take n=ys)(hl:ys.length=n)(hn:AV.nm.nmL ys=true)
 (ht:tyOk P t true n=true):Pur P C (.load t x) ty st (.agg ys):=λg a w dst pos af gd hr=>by
 obtain⟨b,o,vs,e,h1,h2⟩:=zim (yq hr hx);have N:((List.range n).map λi=>vs (j+i)).length=n:=ah
 have K:∀i c,ys[i]? =some c->i<n/\(enc u)[j+i]? =some c:=λi c hc=>by
  have hi:i<n:=by rw[←hl];exact(j5.1 hc).1
  rw[←hy,w4,j7 hi,wI]at hc;exact⟨hi,hc⟩
 refine⟨.agg ((List.range n).map λi=>vs (j+i)).toArray,?_,.agg _ _ (by rw[N,hl]) (λi c v hc hv=>?_)⟩
 ·have:=zU (P:=P) (t:=t) ht (b:=b) (o:=o+j) (w:=w) (vs:=(List.range n).map λi=>vs (j+i)) N (λi v hv=>by
   rw[j9]at hv;by_cases hi:i<n
   ·simp[uY hi]at hv;subst hv;have hc:i<ys.length:=aa
    have hz:=(K i _ (jC hc)).2;have:=(hr.sat.im _ _ _ (h1 (j+i) (j5.1 hz).1)).1;rw[uB];exact this
   ·simp[wO (l:=List.range n) (i:=i) aj]at hv)
  simp only[execOp,e,jM,Instr.loadAt,Instr.sureAddr,jP,jH,this]
 ·obtain⟨hi,hz⟩:=K i c hc;rw[j9,uY hi]at hv;simp at hv;subst hv;exact(h2 (j+i) c hz).forget (zw hn hc)
def yg{k i:Nat}(h:ev st x=some (.ptr k s i j)):Pur P C (.nilCheck x) ty st (.ptr k s i j):=λg a w dst pos af gd hr=>by
 have N:=yq hr h;obtain⟨b,_,e⟩:=zad N;exact⟨_,by simp[execOp,e],e▸N⟩
def zjG{enc:α->List AV}{y:α}(h:ev st x=some (.ept enc y j)):Pur P C (.nilCheck x) ty st (.ept enc y j):=λg a w dst pos af gd hr=>by
 have N:=yq hr h
 have⟨b,o,e⟩:∃b o,a.eval x=.pointer (some ⟨b,o,none⟩):=by
  generalize a.eval x=v at N;cases N with|ept _ _ _ b o vs hI N=>exact⟨b,_,rfl⟩
 exact⟨_,by simp[execOp,e],e▸N⟩
def zhF{t n E:Nat}{k z i:Nat}(hx:ev st x=some (.ptr k z i j))(N:ev st y=some (.int kk q))(ht:zba P t n E=true)(hE:tyOk P E ag s=true)(h0:0<=q)(h1:q<n):
 Pur P C (.indexAddr t x y) ty st (.ptr k z i (j+q.toNat*s)):=λg a w dst pos af gd hr=>by
 obtain⟨b,K,e⟩:=zad (yq hr hx);have ey:=yK (yq hr N);refine⟨.pointer (some ⟨b,i*z+j+q.toNat*s,none⟩),?_,?_⟩
 ·simp[execOp,Instr.indexAt,asIntOf,Instr.sureAddr,e,ey,run_underlying (zb1 ht),h0,h1,yJ hE,zG]
 ·have:=RV.ptr (I:=g.I) (ρ:=g.ρ) k z i (j+q.toNat*s) b K;rw[←uB]at this;exact this
def yU{x:AV}(h:Pur P C op ty st x:=by
 first
  |exact zn5 rfl
  |exact zbZ rfl
  |exact zqo rfl rfl
  |exact zan rfl rfl rfl TyK.h
  |exact zaa rfl rfl rfl TyK.h
  |exact zjm rfl rfl rfl rfl TyK.h
  |exact zjn rfl rfl rfl TyK.h
  |exact zdY rfl rfl rfl rfl TyK.h
  |exact zh4 rfl rfl rfl rfl TyK.h
  |exact zao rfl rfl ai rfl rfl TyK.h
  |exact zdX rfl FoK.h
  |exact zh3 rfl FoK.h
  |exact zbS rfl rfl SlK.h TyK.h (λ_=>rfl) aa ai
  |exact zeu rfl rfl rfl SlK.h TyK.h aa aa
  |exact zob rfl rfl SlK.h TyK.h aa aa
  |exact zgC rfl SlK.h
  |exact zdq rfl rfl SlK.h
  |exact zdN rfl SlK.h
  |exact zsP rfl rfl
  |exact zxN rfl rfl
  |exact zDs rfl rfl
  |exact zDt rfl rfl
  |exact zDu rfl rfl
  |exact zDv rfl rfl
  |exact zxK rfl rfl (wZ _ aa)
  |exact zkx rfl rfl (wZ _ aa)
  |exact zsM rfl rfl (wZ _ aa)
  |exact zsN rfl rfl aa aa aa
  |exact zsO rfl rfl aa aa
  |exact zxL rfl rfl aa (wZ _ aa)
  |exact zxM rfl rfl aa
  |exact ztb rfl rfl
  |exact zDD rfl rfl
  |exact P_and rfl rfl
  |exact P_or rfl rfl
  |exact zey rfl (by first|assumption|rfl|omega|(simp;done)|(simp;omega)|(simp_all;done)|fail) rfl
  |exact zcj rfl (by first|assumption|rfl|omega|(simp;done)|(simp;omega)|(simp_all;done)|fail) rfl
  |exact zDx rfl
  |exact zDw rfl (wZ _ aa)
  |exact zu3 PlK.h.1 PlK.h.2 ZcK.h rfl rfl rfl
  |exact zn7 ArK.h TyK.h ZcK.h rfl rfl rfl
  |exact zin ArK.h TyK.h rfl rfl aa aa (by first|rfl|assumption)
  |exact zO ArK.h TyK.h rfl rfl aa aa (by first|rfl|assumption)
  |exact zfI rfl
  |exact P_nilCheck_fn rfl
  |exact zcn rfl UnK.h UsK.h (wZ _ aa)
  |exact zeE (zpK _ _) inferInstance TyK.h rfl rfl rfl rfl rfl
  |exact zcK (zpK _ _) inferInstance TyK.h rfl rfl rfl rfl rfl
  |exact zeE (zme _ _) inferInstance TyK.h rfl rfl rfl rfl rfl
  |exact zcK (zme _ _) inferInstance TyK.h rfl rfl rfl rfl rfl
  |exact zeE (eqL_mnE _ _) inferInstance TyK.h rfl rfl rfl rfl rfl
  |exact zcK (eqL_mnE _ _) inferInstance TyK.h rfl rfl rfl rfl rfl
  |exact zeE rfl inferInstance TyK.h rfl rfl rfl rfl rfl
  |exact zcK rfl inferInstance TyK.h rfl rfl rfl rfl rfl
  |exact P_eql_bool ae rfl rfl
  |exact P_neq_bool ae rfl rfl
  |exact yg rfl
  |exact zjG rfl
  |exact zhF rfl rfl ArK.h TyK.h aa aa):Pur P C op ty st x:=h
section
variable{ops:Array Oper}{rest:List Oper}{dst:Option Tmp}{d:Nat}{op:Op}{pos:String}{af:Array Edge}{x:AV}
variable{T:TypeId}{b:St}{core:List (Nat×List Nat)}{i j:Nat}{o:Operand}{st':St}{α:Type _}
def ya(h:Ex P C ops rest ⟨(d,x)::st.t,st.h⟩ Q)(hs:Pur P C op ty st x:=by exact yU)(N:d.blt C.n=true:=by exact rfl):
 Ex P C ops ({dst:=some d,op:=op,type:=ty,pos:=pos,after:=af,guard:=none}::rest) st Q:=yO hs N h
def yk(h:Q .normal ⟨(d,x)::st.t,st.h⟩)(hs:Pur P C op ty st x:=by exact yU)(N:d.blt C.n=true:=by exact rfl):Ex P C ops ({dst:=some d,op:=op,type:=ty,pos:=pos,after:=af,guard:=none}::[]) st Q:=yO hs N (Ex.nil h)
def yE{ops:Array Oper}{fl l:List Fl}(h:zeD P C ops core fl b j l:=by(repeat'(first|exact True.intro|refine⟨.inl rfl,?_⟩|refine⟨.inr ⟨_,rfl,rfl,rfl,rfl,Pur.stepA yU⟩,?_⟩|refine⟨.inr ⟨_,rfl,rfl,rfl,rfl,Pur.stepA (yg rfl)⟩,?_⟩|refine⟨.inr ⟨_,rfl,rfl,rfl,rfl,Pur.stepA (zbK rfl rfl)⟩,?_⟩|refine⟨.inr ⟨_,rfl,rfl,rfl,rfl,Pur.stepA (P_fieldAddr rfl rfl rfl)⟩,?_⟩))):zeD P C ops core fl b j l:=h
def yC{d1:Nat}{op1:Op}{ty1:TypeId}{pos1:String}{af1:Array Edge}{x1:AV}(h:Q .normal ⟨(d1,x1)::(d,x)::st.t,st.h⟩)(hs:Pur P C op ty st x:=by exact yU)(hd:d.blt C.n=true:=by exact rfl)(N:Pur P C op1 ty1 ⟨(d,x)::st.t,st.h⟩ x1:=by exact yU)(K:d1.blt C.n=true:=by exact rfl):Ex P C ops [{dst:=some d,op:=op,type:=ty,pos:=pos,after:=af,guard:=none},{dst:=some d1,op:=op1,type:=ty1,pos:=pos1,after:=af1,guard:=none}] st Q:=ya (yk h N K) hs hd
def yo{d1:Nat}{op1:Op}{ty1:TypeId}{pos1:String}{af1:Array Edge}{x1:AV}{d2:Nat}{op2:Op}{ty2:TypeId}{pos2:String}{af2:Array Edge}{x2:AV}(h:Q .normal ⟨(d2,x2)::(d1,x1)::(d,x)::st.t,st.h⟩)(hs:Pur P C op ty st x:=by exact yU)(hd:d.blt C.n=true:=by exact rfl)(N:Pur P C op1 ty1 ⟨(d,x)::st.t,st.h⟩ x1:=by exact yU)(K:d1.blt C.n=true:=by exact rfl)(xT:Pur P C op2 ty2 ⟨(d1,x1)::(d,x)::st.t,st.h⟩ x2:=by exact yU)(x0:d2.blt C.n=true:=by exact rfl):Ex P C ops [{dst:=some d,op:=op,type:=ty,pos:=pos,after:=af,guard:=none},{dst:=some d1,op:=op1,type:=ty1,pos:=pos1,after:=af1,guard:=none},{dst:=some d2,op:=op2,type:=ty2,pos:=pos2,after:=af2,guard:=none}] st Q:=ya (ya (yk h xT x0) N K) hs hd
def zkF(h:Q .ret st):Ex P C ops [] st (zcb (λst=>X P C .ret st Q) Q):=Ex.nil (X.ret h)
def lgg{l:List α}(h:i<l.length):l[i]? =some l[i]:=jC h
def zf{fop:Operand}{args:Array Operand}{ts:Array TypeId}{f:FuncId}{caps xs:List AV}{r:AV}
 (N:Fn P f (xs++caps) r)(h:Ex P C ops rest ⟨(d,r)::st.t,st.h⟩ Q)(hf:ev st fop=some (.fn f caps):=by exact rfl)(hx:evs st args.toList=some xs:=by exact rfl)(hn:AV.nm.nmL (xs++caps)=true:=by exact rfl)(K:d.blt C.n=true:=by exact rfl):
 Ex P C ops ({dst:=some d,op:=.call {callee:=.value fop,args:=args,argTypes:=ts},type:=ty,pos:=pos,after:=af,guard:=none}::rest) st Q:=Ex.call hf hx hn N K h
def zax{y:AV}(h:Ex P C ops rest (addSt st (some d) (.ptr d 0 0 0) (some (d,.box [y] T))) Q)(hx:ev st o=some y:=by exact rfl)(hs:y.sc=true:=by exact rfl)(hf:y.fr d=true:=by exact rfl)(N:dOk C.n (some d)=true:=by exact rfl)(hn:nbOk st (some (d,.box [y] T))=true:=by exact rfl):
 Ex P C ops ({dst:=some d,op:=.box T o,type:=ty,pos:=pos,after:=af,guard:=none}::rest) st Q:=Ex.stepA (zDy hx hs hf) N hn h
def zl{cs:List AV}(h:Ex P C ops rest (addSt st (some d) (.ptr d 0 0 0) (some (d,.box cs T))) Q)(hx:ev st o=some (.agg cs):=by exact rfl)(hf:AV.fr.frL d cs=true:=by exact rfl)(N:dOk C.n (some d)=true:=by exact rfl)(hn:nbOk st (some (d,.box cs T))=true:=by exact rfl):
 Ex P C ops ({dst:=some d,op:=.box T o,type:=ty,pos:=pos,after:=af,guard:=none}::rest) st Q:=Ex.stepA (zhi hx hf) N hn h
def yP{cs:List AV}[N:ZcK P T cs](h:Ex P C ops rest (addSt st (some d) (.ptr d 0 0 0) (some (d,.box cs T))) Q)(K:dOk C.n (some d)=true:=by exact rfl)(hn:nbOk st (some (d,.box cs T))=true:=by exact rfl):
 Ex P C ops ({dst:=some d,op:=.alloc T,type:=ty,pos:=pos,after:=af,guard:=none}::rest) st Q:=Ex.stepA (zd N.h) K hn h
def yH{α:Type}(enc:α->List AV)(l:List α){t E:TypeId}{ag:Bool}{s n:Nat}{parts:Array (Nat×Operand)}{ps:List (Nat×AV)}{z:Value}(h:Ex P C ops rest (addSt st (some d) (.own d) (some (d,.row enc l E s))) Q)
 (ht:slOk P t E=true:=by exact SlK.h)(hE:tyOk P E ag s=true:=by exact TyK.h)(hz:(P.info? E).bind (·.zero)=some z:=by exact ZeK.h)
 (N:0<s:=by decide)(hp:zbI st parts.toList=some ps:=by exact rfl)(hk:zci ps=true:=by exact rfl)(hf:zfn (λi=>some (i*s,s)) (List.replicate (n*s) .any) ps=some (l.flatMap enc):=by exact rfl)(K:l.length=n:=by exact rfl)(hn:n*s<=16777216:=by decide)(hm:n<=1000000:=by decide)
 (hs:∀x,(enc x).length=s:=by intro _;rfl)(xT:AV.nm.nmL (l.flatMap enc)=true:=by exact rfl)(hd:dOk C.n (some d)=true:=by exact rfl)(x2:nbOk st (some (d,.row enc l E s))=true:=by exact rfl):
 Ex P C ops ({dst:=some d,op:=.buildSlice t n parts,type:=ty,pos:=pos,after:=af,guard:=none}::rest) st Q:=Ex.stepA (zx ht hE hz N hp hk hf K hn hm hs xT) hd x2 h
def Ex.mo(h:Ex P C ops rest st' Q)(hs:yu P C op ty dst st st':=by
 first
  |exact zX rfl rfl rfl rfl TyK.h (ltB rfl)
  |exact zav rfl rfl rfl rfl TyK.h rfl (leB rfl)
  |exact zaZ rfl rfl rfl rfl SlK.h TiK.h ac ac (λ_=>rfl) (λ_=>rfl) (by first|omega|(simp;done)|(simp;omega)|(simp_all;omega)|fail) rfl
  |exact zaw rfl rfl rfl SlK.h TiK.h ac ac (λ_=>rfl) (λ_=>rfl) (by first|omega|(simp;done)|(simp;omega)|(simp_all;omega)|fail) rfl
  |exact zaU _ rfl rfl (λ_=>rfl) ac (by first|omega|(simp;done)|(simp;omega)|(simp_all;omega)|fail) rfl rfl rfl rfl rfl TyK.h):
  Ex P C ops ({dst:=dst,op:=op,type:=ty,pos:=pos,after:=af,guard:=none}::rest) st Q:=yX hs h
end
def yh{ts:List (Nat×AV)}{hs:List (Nat×Blk)}(h1:impT st ts:=by
 repeat'(first|exact True.intro|(refine And.intro ⟨_,rfl,?_⟩ ?_;(first|exact LeV.refl _|exact LeV.any _|exact LeB.refl _|(refine LeV.eq ?_;simp;done)|(refine LeV.eq ?_;congr 1;omega)|(refine LeV.eq ?_;dsimp only;congr 1;omega)|(refine LeV.eq (jA (AV.int _) ?_);omega)|exact LeV.nils _|(refine LeV.eq ?_;congr 1;assumption)))))(N:impH st hs:=by
 repeat'(first|exact True.intro|(refine And.intro ⟨_,rfl,?_⟩ ?_;(first|exact LeB.refl _|exact LeB.row ai|(refine LeB.eq ?_;congr 1;omega)|(refine LeB.eq ?_;congr 1;simp only[cond_true,cond_false];omega))))):Imp C st ⟨ts,hs⟩:=Imp.of h1 N
def ze8{c:Code}(I:ι->List (Nat×AV))(H:ι->List (Nat×Blk))(J:ι->Prop)(μ:ι->Nat)(i0:ι)(h:∀i,J i->X P C c ⟨I i,H i⟩ (zcb (λst'=>∃i',Imp C st' ⟨I i',H i'⟩/\J i'/\μ i'<μ i) Q))
 (hJ:J i0:=by first|trivial|omega|(refine⟨?_,?_⟩<;>omega))(h0:Imp C st ⟨I i0,H i0⟩:=by exact yh):X P C (.loop c) st Q:=X.loop (λi=>⟨I i,H i⟩) J μ i0 h0 hJ h
class BP(b:Bool)(p n:outParam Prop):Prop where
 t:b=true->p
 f:b=false->n
instance(priority:=10)bp0{b:Bool}:BP b (b=true) (b=false):=⟨id,id⟩
instance(priority:=20)bp1{p:Prop}{i:Decidable p}:BP (@decide p i) p (¬p):=⟨λh=>by simpa using h,λh=>by simpa using h⟩
instance(priority:=30)bp2{x y:Int}{i:Decidable (x<y)}:BP (@decide (x<y) i) (x<y) (y<=x):=⟨λh=>by simpa using h,λh=>by simpa using h⟩
instance(priority:=30)bp3{x y:Int}{i:Decidable (x<=y)}:BP (@decide (x<=y) i) (x<=y) (y<x):=⟨λh=>by simpa using h,λh=>by simpa using h⟩
instance(priority:=30)bp4{b:Bool}{p n:Prop}[h:BP b p n]:BP (!b) n p:=⟨λe=>h.f (ao e),λe=>h.t (ao e)⟩
instance(priority:=30)bp5{a b:Bool}{p n q m:Prop}[h:BP a p n][N:BP b q m]:BP (a&&b) (p/\q) (n\/m):=⟨λe=>by simp at e;exact⟨h.t e.1,N.t e.2⟩,λe=>by
 cases a with
 |false=>exact .inl (h.f rfl)
 |true=>exact .inr (N.f (ao e))⟩
instance(priority:=30)bp6{a b:Bool}{p n q m:Prop}[h:BP a p n][N:BP b q m]:BP (a||b) (p\/q) (n/\m):=⟨λe=>by
 cases a with
 |true=>exact .inl (h.t rfl)
 |false=>exact .inr (N.t (ao e)),λe=>by simp at e;exact⟨h.f e.1,N.f e.2⟩⟩
instance(priority:=40)bp7{b:Bool}{p n:Prop}[h:BP b p n]:BP (b==true) p n:=⟨λe=>h.t (ao e),λe=>h.f (ao e)⟩
instance(priority:=40)bp8{b:Bool}{p n:Prop}[h:BP b p n]:BP (b==false) n p:=⟨λe=>h.f (ao e),λe=>h.t (ao e)⟩
def zDE{x y:Code}{b:Bool}{p n:Prop}(hc:ev st c=some (.bool b))[h:BP b p n](ht:p->X P C x st Q)(hf:n->X P C y st Q):X P C (.cond c x y) st Q:=X.cond hc (λe=>ht (h.t e)) (λe=>hf (h.f e))
def Fn.go{f:FuncId}{c:Code}{n:Nat}{az:List AV}{r:AV}(hf:P.funcs[f]? =some fn)(hn:fn.ntmps=n)(h:∀g w d,X P (C0 n d g w) c ⟨zaE 0 az,[]⟩ (RetQ P (C0 n d g w) rv r))(hb:fn.body=some c:=by exact rfl)
 (K:fn.results=rv.toArray:=by exact rfl)(hc:zy P f=true:=by kernel_rfl)(xT:r.nm=true:=by exact rfl)(N:az.length<=n:=by simp):Fn P f az r:=Fn.intro hc hf hb hn K xT rfl N h
end
def tb(m i:Nat):Bool:=((m>>>i)%2).beq 1
def bits(n m:Nat):List Nat:=(List.range n).filter (tb m ·)
def zhn{n m i:Nat}(h:i<n):memb i (bits n m)=tb m i:=by
 cases N:tb m i with
 |true=>exact yG.2 (wG.2 ⟨uV.2 h,N⟩)
 |false=>
  cases hm:memb i (bits n m)with
  |false=>rfl
  |true=>have:=(wG.1 (yG.1 hm)).2;rw[N]at this;cases this
structure FactM:Type 1 where
 i:Nat
 d:Option Nat
 x:AV
 nb:Option (Nat×Blk)
 m:Nat
 g:List (Nat×Bool)
def za6:List FactM->Nat->Bool->Bool
 |[],_,_=>false
 |⟨i,_,x,_,_,_⟩::r,j,w=>bif i.beq j then(match x with|.bool b=>b==w|_=>false)else za6 r j w
def zi(fs:List FactM):List (Nat×Bool)->Bool
 |[]=>true
 |[(j,w)]=>za6 fs j w
 |(j,w)::e::r=>za6 fs j w&&zi fs (e::r)
def zbl(fs:List FactM)(e:Nat×Bool)(r:List (Nat×Bool)):zi fs (e::r)=(za6 fs e.1 e.2&&zi fs r):=by
 cases r with
 |nil=>simp[zi]
 |cons e' r=>rfl
def eqCh:List (Nat×Bool)->List (Nat×Bool)->Bool
 |[],[]=>true
 |(i,a)::r,(j,b)::q=>i.beq j&&(a==b)&&eqCh r q
 |_,_=>false
def zmf:∀{a b:List (Nat×Bool)},eqCh a b=true->a=b
 |[],[],_=>rfl
 |[],_::_,h=>by simp[eqCh]at h
 |_::_,[],h=>by simp[eqCh]at h
 |(i,a)::r,(j,b)::q,h=>by
  simp only[eqCh,jE]at h;obtain⟨⟨h1,N⟩,K⟩:=h;have h1:i=j:=ao h1
  have N:a=b:=ao N
  have h4:r=q:=zmf K;subst h1;subst N;subst h4;rfl
def sfx(s:List (Nat×Bool)):List (Nat×Bool)->Bool
 |[]=>eqCh s []
 |e::r=>eqCh s (e::r)||sfx s r
def relG(G:List (Nat×Bool)):List (Nat×Bool)->List (Nat×Bool)
 |[]=>[]
 |e::r=>bif sfx (e::r) G then[]else e::relG G r
def optV(c:Bool)(g:List (Nat×Bool))(x:AV):AV:=match g with|[]=>x|_::_=>.opt c x
def zpL(fs:List FactM)(G g:List (Nat×Bool))(x:AV):AV:=match relG G g with|[]=>x|e::q=>.opt (zi fs (e::q)) x
def zkG{fs:List FactM}{s:List (Nat×Bool)}:∀{G:List (Nat×Bool)},sfx s G=true->zi fs G=true->zi fs s=true
 |[],h,N=>by rw[zmf (a:=s) (b:=[]) (by simpa[sfx]using h)];exact N
 |e::r,h,N=>by
  simp only[sfx,wL]at h;rcases h with h|h
  ·rw[zmf h];exact N
  ·rw[zbl,jE]at N;exact zkG h N.2
def zkH{fs:List FactM}{G:List (Nat×Bool)}(N:zi fs G=true):∀g,zi fs g=zi fs (relG G g)
 |[]=>rfl
 |e::r=>by
  simp only[relG];cases hs:sfx (e::r) G with
  |true=>simp only[cond_true];rw[zkG hs N];rfl
  |false=>simp only[cond_false];rw[zbl,zbl,zkH N r]
def zpM{fs:List FactM}{g:List (Nat×Bool)}{x:AV}{I:Im}{ρ:Nat->Value}{v:Value}(K:zi fs G=true)(h:RV I ρ (optV (zi fs g) g x) v):RV I ρ (zpL fs G g x) v:=by
 have hr:=zkH K g;unfold zpL;cases N:relG G g with
 |nil=>
  rw[N]at hr;have hr:zi fs g=true:=hr;cases g with
  |nil=>exact h
  |cons e r=>exact(ziv h).1 hr
 |cons e q=>
  rw[N]at hr;cases g with
  |nil=>simp[relG]at N
  |cons e' r=>
   have h:RV I ρ (.opt (zi fs (e'::r)) x) v:=h;rw[hr]at h;exact h
def WF:List FactM->Prop
 |[]=>True
 |f::r=>(∀f'∈r,f'.i<f.i)/\(∀e∈f.g,∃f'∈r,f'.i=e.1)/\WF r
def zm8{f:FactM}{r:List FactM}{w:Bool}(h:f.i≠j):za6 (f::r) j w=za6 r j w:=by
 obtain⟨i,d,x,nb,m,g⟩:=f;show(bif i.beq j then _ else za6 r j w)=_;rw[beqF.2 h];rfl
def zjH{f:FactM}{r:List FactM}:∀{g:List (Nat×Bool)},(∀e∈g,f.i≠e.1)->zi (f::r) g=zi r g
 |[],_=>rfl
 |e::q,h=>by rw[zbl,zbl,zm8 (h e ah),zjH λe he=>h e (by simp[he])]
def toL(n:Nat):List FactM->List Fact
 |[]=>[]
 |f::r=>⟨f.i,f.d,optV (zi r f.g) f.g f.x,f.nb,bits n f.m⟩::toL n r
def selR(m:Nat)(b:List (Nat×AV)):List FactM->List (Nat×AV)
 |[]=>b
 |⟨i,d,x,_,_,g⟩::r=>bif tb m i then consT d (optV (zi r g) g x) (selR m b r)else selR m b r
def ztc(fs:List FactM)(d:Option Nat)(x:AV)(l:List (Nat×AV)):List (Nat×Bool)->List (Nat×AV)
 |[]=>consT d x l
 |e::q=>consT d (.opt (zi fs (e::q)) x) l
def zm9(fs:List FactM)(G g:List (Nat×Bool))(d:Option Nat)(x:AV)(l:List (Nat×AV)):ztc fs d x l (relG G g)=consT d (zpL fs G g x) l:=by
 unfold zpL;cases relG G g<;>rfl
def selV(fs:List FactM)(G:List (Nat×Bool))(m:Nat)(b:List (Nat×AV)):List FactM->List (Nat×AV)
 |[]=>b
 |⟨i,d,x,_,_,g⟩::r=>bif tb m i then ztc fs d x (selV fs G m b r) (relG G g)else selV fs G m b r
def zkI(m:Nat)(b:List (Nat×Blk)):List FactM->List (Nat×Blk)
 |[]=>b
 |⟨i,_,_,nb,_,_⟩::r=>bif tb m i then zkz nb (zkI m b r)else zkI m b r
def allR(b:List (Nat×AV)):List FactM->List (Nat×AV)
 |[]=>b
 |⟨_,d,x,_,_,g⟩::r=>consT d (optV (zi r g) g x) (allR b r)
def allV(fs:List FactM)(G:List (Nat×Bool))(b:List (Nat×AV)):List FactM->List (Nat×AV)
 |[]=>b
 |⟨_,d,x,_,_,g⟩::r=>ztc fs d x (allV fs G b r) (relG G g)
def zkJ(b:List (Nat×Blk)):List FactM->List (Nat×Blk)
 |[]=>b
 |⟨_,_,_,nb,_,_⟩::r=>zkz nb (zkJ b r)
def stR(st:St)(hid:List Nat)(m:Nat)(fs:List FactM):St:=⟨selR m (rmK hid st.t) fs,zkI m st.h fs⟩
def stV(st:St)(hid:List Nat)(m:Nat)(fs:List FactM)(G:List (Nat×Bool)):St:=⟨selV fs G m (rmK hid st.t) fs,zkI m st.h fs⟩
def zgO(st:St)(hid:List Nat)(fs:List FactM):St:=⟨allV fs [] (rmK hid st.t) fs,zkJ st.h fs⟩
def zpN(n:Nat):∀fs:List FactM,(toL n fs).map (·.i)=fs.map (·.i)
 |[]=>rfl
 |f::r=>by simp[toL,zpN n r]
def ztd{n m:Nat}{b:List (Nat×AV)}:∀{fs:List FactM},(∀f∈fs,f.i<n)->selT (bits n m) b (toL n fs)=selR m b fs
 |[],_=>rfl
 |f::r,h=>by
  have ih:=ztd (b:=b) (m:=m) (fs:=r) λf hf=>h f (by simp[hf])
  have h0:=h f ah;obtain⟨i,d,x,nb,mm,g⟩:=f;simp only[toL,selT,selR,ih];rw[zhn h0]
def zte{n m:Nat}{b:List (Nat×Blk)}:∀{fs:List FactM},(∀f∈fs,f.i<n)->selH (bits n m) b (toL n fs)=zkI m b fs
 |[],_=>rfl
 |f::r,h=>by
  have ih:=zte (b:=b) (m:=m) (fs:=r) λf hf=>h f (by simp[hf])
  have h0:=h f ah;obtain⟨i,d,x,nb,mm,g⟩:=f;simp only[toL,selH,zkI,ih];rw[zhn h0]
def ztf{st:St}{hid:List Nat}{n m:Nat}{fs:List FactM}(h:∀f∈fs,f.i<n):stOf st hid (bits n m) (toL n fs)=stR st hid m fs:=by
 unfold stOf stR;rw[ztd h,zte h]
def zna{n:Nat}{az:List Nat}{b:List (Nat×AV)}:∀{fs:List FactM},(∀f∈fs,memb f.i az=true)->selT az b (toL n fs)=allR b fs
 |[],_=>rfl
 |f::r,h=>by
  have ih:=zna (n:=n) (b:=b) (az:=az) (fs:=r) λf hf=>h f (by simp[hf])
  have h0:=h f ah;obtain⟨i,d,x,nb,mm,g⟩:=f;have h0:memb i az=true:=h0;simp only[toL,selT,allR,ih,h0,cond_true]
def znb{n:Nat}{az:List Nat}{b:List (Nat×Blk)}:∀{fs:List FactM},(∀f∈fs,memb f.i az=true)->selH az b (toL n fs)=zkJ b fs
 |[],_=>rfl
 |f::r,h=>by
  have ih:=znb (n:=n) (b:=b) (az:=az) (fs:=r) λf hf=>h f (by simp[hf])
  have h0:=h f ah;obtain⟨i,d,x,nb,mm,g⟩:=f;have h0:memb i az=true:=h0;simp only[toL,selH,zkJ,ih,h0,cond_true]
inductive LeT(I:Im)(ρ:Nat->Value):List (Nat×AV)->List (Nat×AV)->Prop
 |refl(l:List (Nat×AV)):LeT I ρ l l
 |cons{t:Nat}{x y:AV}{l l':List (Nat×AV)}(hx:∀v,RV I ρ x v->RV I ρ y v)(h:LeT I ρ l l'):LeT I ρ ((t,x)::l) ((t,y)::l')
theorem LeT.lk{I:Im}{ρ:Nat->Value}{l l':List (Nat×AV)}(h:LeT I ρ l l'):∀{t:Nat}{y:AV},Rse.lk l' t=some y->∃x,Rse.lk l t=some x/\∀v,RV I ρ x v->RV I ρ y v:=by
 induction h with
 |refl l=>exactλ{t y}e=>⟨y,e,λv h=>h⟩
 |@cons t0 x y l l' hx _ ih=>
  intro t z e;rw[ym]at e⊢;cases N:t0.beq t with
  |true=>rw[N]at e;simp at e;subst e;exact⟨x,ah,hx⟩
  |false=>rw[N]at e;simp at e;obtain⟨x',h1,K⟩:=ih e;exact⟨x',by simpa using h1,K⟩
theorem LeT.consT{I:Im}{ρ:Nat->Value}{d:Option Nat}{x y:AV}{l l':List (Nat×AV)}(hx:∀v,RV I ρ x v->RV I ρ y v)(h:LeT I ρ l l'):LeT I ρ (Rse.consT d x l) (Rse.consT d y l'):=by
 cases d with
 |none=>exact h
 |some d=>exact .cons hx h
def Suf(r fs:List FactM):Prop:=∀g:List (Nat×Bool),(∀e∈g,∃f'∈r,f'.i=e.1)->zi r g=zi fs g
def Suf.tl{f:FactM}{r fs:List FactM}(h:Suf (f::r) fs)(hw:WF (f::r)):Suf r fs:=λg N=>by
 rw[←h g λe he=>by obtain⟨f',h1,K⟩:=N e he;exact⟨f',by simp[h1],K⟩];exact(zjH λe he=>by obtain⟨f',h1,K⟩:=N e he;have:=hw.1 f' h1;omega).symm
def zpO{I:Im}{ρ:Nat->Value}{fs:List FactM}{G:List (Nat×Bool)}{m:Nat}{b:List (Nat×AV)}(K:zi fs G=true):∀{r:List FactM},WF r->Suf r fs->LeT I ρ (selR m b r) (selV fs G m b r)
 |[],_,_=>.refl _
 |f::r,N,hs=>by
  have ih:=zpO (I:=I) (ρ:=ρ) (m:=m) (b:=b) K N.2.2 (hs.tl N);have hc:zi r f.g=zi fs f.g:=(hs.tl N) f.g N.2.1;obtain⟨i,d,x,nb,mm,g⟩:=f;simp only[selR,selV,zm9];cases tb m i with
  |true=>exact .consT (λv hv=>zpM K (by rw[←hc];exact hv)) ih
  |false=>exact ih
def zmg{I:Im}{ρ:Nat->Value}{fs:List FactM}{G:List (Nat×Bool)}{b:List (Nat×AV)}(K:zi fs G=true):∀{r:List FactM},WF r->Suf r fs->LeT I ρ (allR b r) (allV fs G b r)
 |[],_,_=>.refl _
 |f::r,N,hs=>by
  have ih:=zmg (I:=I) (ρ:=ρ) (b:=b) K N.2.2 (hs.tl N);have hc:zi r f.g=zi fs f.g:=(hs.tl N) f.g N.2.1;obtain⟨i,d,x,nb,mm,g⟩:=f;simp only[allR,allV,zm9];exact .consT (λv hv=>zpM K (by rw[←hc];exact hv)) ih
def Rel.view{C:Ctx}{st st':St}{g:Gh}(h:Rel C st g a w)(N:st'.h=st.h)(ht:LeT g.I g.ρ st.t st'.t):Rel C st' g a w:=
 Rel.slots h N λt x hx=>by obtain⟨y,h1,K⟩:=ht.lk hx;exact K _ (h.tmps t y h1)
def Rel.selV{C:Ctx}{st:St}{hid:List Nat}{m:Nat}{fs:List FactM}{g:Gh}(N:WF fs)(K:zi fs G=true)(h:Rel C (stR st hid m fs) g a w):Rel C (stV st hid m fs G) g a w:=
 h.view rfl (zpO K N λ_ _=>rfl)
def zpP:FactM->FactM->Bool
 |⟨_,d,x,nb,m,_⟩,⟨i',d',x',nb',_,_⟩=>
  (match d,d' with|some d,some d'=>!(d.beq d')|_,_=>true)&&
  (match nb with|some (k,_)=>x'.fr k&&nbFr nb' k|none=>true)&&
  (match nb' with|some (k,_)=>tb m i'||(x.fr k&&nbFr nb k)|none=>true)
def okFM(st:St)(hid:List Nat):List FactM->Bool
 |[]=>true
 |⟨i,d,x,nb,m,g⟩::r=>(match d with|some d=>memb d hid|none=>true)&&nbOk st nb&&r.all (zpP ⟨i,d,x,nb,m,g⟩)&&okFM st hid r
def zu9(c:Bool)(g:List (Nat×Bool))(x:AV)(k:Nat):(optV c g x).fr k=x.fr k:=by cases g<;>rfl
def zpQ{n:Nat}:∀{fs:List FactM}{F:Fact},F∈toL n fs->∃f∈fs,∃c,F=⟨f.i,f.d,optV c f.g f.x,f.nb,bits n f.m⟩
 |[],F,h=>by simp[toL]at h
 |f::r,F,h=>by
  rcases jW.1 (show F∈_::toL n r from h)with e|h1
  ·exact⟨f,ah,_,e⟩
  ·obtain⟨f',N,c,K⟩:=zpQ h1;exact⟨f',by simp[N],c,K⟩
def ztg{st:St}{hid:List Nat}{n:Nat}:∀{fs:List FactM},(∀f∈fs,f.i<n)->okFM st hid fs=true->okF st hid (toL n fs)=true
 |[],_,_=>rfl
 |f::r,h,hk=>by
  simp only[okFM,jE]at hk;obtain⟨⟨⟨h1,h2⟩,K⟩,h4⟩:=hk;simp only[toL,okF,jE];refine⟨⟨⟨h1,h2⟩,?_⟩,ztg (λf hf=>h f (by simp[hf])) h4⟩;rw[jF]at K⊢;intro F hF;obtain⟨f0,N,c,rfl⟩:=zpQ hF;have:=K f0 N;have h0:=h f0 (by simp[N]);obtain⟨i,d,x,nb,m,g⟩:=f;obtain⟨i',d',x',nb',m',g'⟩:=f0;unfold zpP at this;unfold zew;simp only[zu9,zhn h0];simp only[jE]at this⊢;refine⟨this.1,?_⟩;cases nb' with
  |none=>simp
  |some p=>exact this.2
def zc0:List FactM->Nat->List (Nat×Bool)
 |[],_=>[]
 |⟨i,_,_,_,_,g⟩::r,j=>bif i.beq j then g else zc0 r j
def hasI:List FactM->Nat->Bool
 |[],_=>false
 |⟨i,_,_,_,_,_⟩::r,j=>i.beq j||hasI r j
def zpR:∀{fs:List FactM}{j:Nat},hasI fs j=true->∃f∈fs,f.i=j
 |[],j,h=>by simp[hasI]at h
 |⟨i,d,x,nb,m,g⟩::r,j,h=>by
  simp only[hasI,wL,Nat.beq_eq]at h;rcases h with h|h
  ·exact⟨_,List.mem_cons_self,h⟩
  ·obtain⟨f,h1,N⟩:=zpR h;exact⟨f,by simp[h1],N⟩
def zdb(fs:List FactM):List (Nat×Bool)->Bool
 |[]=>true
 |(j,_)::r=>hasI fs j&&zdb fs r
def zbt{fs:List FactM}:∀{g:List (Nat×Bool)},zdb fs g=true->∀e∈g,∃f'∈fs,f'.i=e.1
 |[],_,e,he=>by simp at he
 |(j,w)::r,h,e,he=>by
  simp only[zdb,jE]at h;rcases jW.1 he with rfl|he
  ·exact zpR h.1
  ·exact zbt h.2 e he
def zoc(ops:Array Oper)(ms:List Nat):Bool:=(List.range ops.size).all λi=>zev ops i (bits ops.size (ms.getD i 0))
def zhG{C:Ctx}{st:St}{g:Gh}{ops:Array Oper}{i t:Nat}{b c0:Bool}{g0:List (Nat×Bool)}(hr:Rel C st g a w)(hi:(ops[i]?).bind (·.dst)=some t)(K:lk st.t t=some (optV c0 g0 (.bool b)))(h0:g0=[]->c0=true):yielded ops a.tmps i=if c0=true then some b else none:=by
 have N:=hr.tmps t _ K
 have N:RV g.I g.ρ (.opt c0 (.bool b)) (a.tmps.getD t undef):=by
  cases g0 with
  |nil=>rw[h0 rfl];exact .opt _ _ _ (λ_=>N) (λh=>by cases h)
  |cons e r=>exact N
 obtain⟨h1,h2⟩:=ziv N;cases c0 with
 |true=>
  have e:=z8 (h1 rfl)
  have:a.tmps[t]? =some (.bool b):=by
   simp only[jI]at e;cases h:a.tmps[t]? with
   |none=>rw[h]at e;simp[undef]at e
   |some u=>rw[h]at e;simpa using e
  simp[yielded,hi,this]
 |false=>
  have e:=h2 rfl
  have:a.tmps[t]? =some (.tuple #[])\/a.tmps[t]? =none:=by
   simp only[jI]at e;cases h:a.tmps[t]? with
   |none=>exact .inr rfl
   |some u=>rw[h]at e;exact .inl (by rw[show u=.tuple #[]from e])
  rcases this with h|h<;>simp[yielded,hi,h]
inductive ChM(P:Program)(C:Ctx)(ops:Array Oper)(ms:List Nat)(st:St)(hid:List Nat)(Q:Exit->St->Prop):Nat->List FactM->Prop
 |step{i m:Nat}{fs:List FactM}{o:Oper}{x:AV}{nb:Option (Nat×Blk)}(hm:ms[i]? =some m)(ho:ops[i]? =some o)(hg:o.guard=none)(hs:yy P C o.op o.type (stV st hid m fs []) x nb)(hd:dOk C.n o.dst=true)(h:ChM P C ops ms st hid Q (i+1) (⟨i,o.dst,x,nb,m,[]⟩::fs)):ChM P C ops ms st hid Q i fs
 |guard{i m:Nat}{fs:List FactM}{o:Oper}{x:AV}{gi t:Nat}{want b c0:Bool}{g0:List (Nat×Bool)}(hm:ms[i]? =some m)(ho:ops[i]? =some o)(hg:o.guard=some (gi,want))(hi:(ops[gi]?).bind (·.dst)=some t)(hb:lk (stR st hid m fs).t t=some (optV c0 g0 (.bool b)))
  (hc0:zi fs g0=c0)(hcd:za6 fs gi want=(b==want))(hg0:∀e∈(gi,want)::g0,∃f'∈fs,f'.i=e.1)(hs:zi fs ((gi,want)::g0)=true->yy P C o.op o.type (stV st hid m fs ((gi,want)::g0)) x none)(hd:dOk C.n o.dst=true)
  (h:ChM P C ops ms st hid Q (i+1) (⟨i,o.dst,x,none,m,(gi,want)::g0⟩::fs)):ChM P C ops ms st hid Q i fs
 |late{i m:Nat}{fs:List FactM}{o1 oe o2:Oper}(e:Nat)(hm:ms[i]? =some m)(hl:ops.toList.drop i=[o1,o2])(hoe:ops[e]? =some oe)(hg:(fs.all λf=>f.g.isEmpty)=true)(hok:okFM st hid fs=true)(hf:zcV ops i e (bits ops.size m)=true)
  (hA:Ex P C ops [o1,o2] (zgO st hid fs) Q)(hB:Ex P C ops [o1,oe,o2] (zgO st hid (fs.filter λf=>!(f.i==e))) Q):ChM P C ops ms st hid Q i fs
 |tail{i:Nat}{fs:List FactM}(hok:okFM st hid fs=true)(hf:zex ops i (bits ops.size (ms.getD i 0))=true)(h:Ex P C ops (ops.toList.drop i) (zgO st hid fs) Q):ChM P C ops ms st hid Q i fs
def znc{ops:Array Oper}{i:Nat}{o:Oper}(h:ops[i]? =some o):i<ops.size:=by
 rcases wH i ops.size with hl|hl
 ·exact hl
 ·simp[vK hl]at h
def zkK{ops:Array Oper}{ms:List Nat}{i m:Nat}(h:zoc ops ms=true)(hi:i<ops.size)(hm:ms[i]? =some m):zev ops i (bits ops.size m)=true:=by
 have:=jF.1 h i (uV.2 hi)
 rwa[jB,hm]at this
def zho{fs:List FactM}:∀f∈fs,memb f.i (fs.map (·.i))=true:=λf hf=>yG.2 (jS.2 ⟨f,hf,rfl⟩)
def Ex.view{P:Program}{C:Ctx}{ops:Array Oper}{l:List Oper}{st st':St}{Q:Exit->St->Prop}(h:Ex P C ops l st' Q)(N:∀g a w,Rel C st g a w->Rel C st' g a w):Ex P C ops l st Q:=λg a w hr=>h g a w (N g a w hr)
def ziw{f:FactM}{fs:List FactM}{i:Nat}(hi:f.i=i)(N:∀f'∈fs,f'.i<i)(hg:∀e∈f.g,∃f'∈fs,f'.i=e.1)(hw:WF fs):WF (f::fs):=⟨λf' K=>by rw[hi];exact N f' K,hg,hw⟩
def zix{f:FactM}{fs:List FactM}{i:Nat}(hi:f.i=i)(N:∀f'∈fs,f'.i<i):∀f'∈f::fs,f'.i<i+1:=λf' K=>by
 rcases jW.1 K with rfl|h
 ·omega
 ·have:=N f' h;omega
def zfO{C:Ctx}{st:St}{hid az:List Nat}{n:Nat}{fs:List FactM}{g:Gh}(N:∀f∈fs,memb f.i az=true)(K:WF fs)(h:Rel C (stOf st hid az (toL n fs)) g a w):Rel C (zgO st hid fs) g a w:=by
 unfold stOf at h;rw[zna N,znb N]at h;exact h.view rfl (zmg rfl K λ_ _=>rfl)
def zpS{n e:Nat}:∀{fs:List FactM},(fs.all λf=>f.g.isEmpty)=true->noF e (toL n fs)=toL n (fs.filter λf=>!(f.i==e))
 |[],_=>rfl
 |f::r,h=>by
  simp only[xS,jE,List.isEmpty_iff]at h;have ih:=zpS (n:=n) (e:=e) (fs:=r) h.2;unfold noF at ih⊢;simp only[toL,uP];by_cases h1:f.i=e
  ·simp only[h1,beq_self_eq_true,kI,kP,if_false];exact ih
  ·have N:(f.i==e)=false:=ao h1
   simp only[N,Bool.not_false,if_true,toL,ih,h.1,optV]
def zkL{p:FactM->Bool}:∀{fs:List FactM},(fs.all λf=>f.g.isEmpty)=true->WF fs->WF (fs.filter p)
 |[],_,_=>trivial
 |f::r,h,K=>by
  simp only[xS,jE,List.isEmpty_iff]at h;have ih:=zkL (p:=p) (fs:=r) h.2 K.2.2;rw[uP];split
  ·exact⟨λf' N=>K.1 f' (wG.1 N).1,λe he=>by rw[h.1]at he;simp at he,ih⟩
  ·exact ih
def ChM.chain{P:Program}{C:Ctx}{ops:Array Oper}{ms:List Nat}{st:St}{hid:List Nat}{Q:Exit->St->Prop}(ha:zoc ops ms=true){i:Nat}{fs:List FactM}(h:ChM P C ops ms st hid Q i fs):(∀f∈fs,f.i<i)->i<=ops.size->WF fs->Chain P C ops st hid Q i (toL ops.size fs):=by
 induction h with
 |@step i m fs o x nb hm ho hg hs hd _ ih=>
  intro N x1 hw;have hn:∀f∈fs,f.i<ops.size:=λf hf=>by have:=N f hf;omega
  refine .gen rfl ⟨zkK ha (znc ho) hm,hd,λg a w hr K hK=>?_⟩ (ih (zix rfl N) (by have:=znc ho;omega) (ziw rfl N (λe he=>by simp at he) hw));have hr:Rel C (stR st hid m fs) g a w:=by rw[←ztf hn];exact hr
  simp only[wpOpIn,ho];rw[j7 (by simp[Region.wanted,hg])];exact zaf (hs g a w o.dst o.pos o.after o.guard (hr.selV hw rfl) K hK)
 |@guard i m fs o x gi t want b c0 g0 hm ho hg hi hb x0 w2 v9 hs hd _ ih=>
  intro N x1 hw;have hn:∀f∈fs,f.i<ops.size:=λf hf=>by have:=N f hf;omega
  refine .gen rfl ⟨zkK ha (znc ho) hm,hd,λg a w hr K hK=>?_⟩ (ih (zix rfl N) (by have:=znc ho;omega) (ziw rfl N v9 hw));have hr:Rel C (stR st hid m fs) g a w:=by rw[←ztf hn];exact hr
  have hy:=zhG hr hi hb (λe=>by rw[e]at x0;exact x0.symm);have x2:zi fs ((gi,want)::g0)=((b==want)&&c0):=by rw[zbl,w2,x0]
  simp only[wpOpIn,ho];cases hT:zi fs ((gi,want)::g0)with
  |true=>
   rw[x2,jE]at hT;rw[j7 (by simp only[Region.wanted,hg,hy,hT.2,if_true];simpa using hT.1)];refine zaf (hs (by rw[x2,hT.1,hT.2];rfl) g a w o.dst o.pos o.after o.guard (hr.selV hw (by rw[x2,hT.1,hT.2];rfl)) _ λv w' g' h2 h3 h4 h5=>hK v w' g' h2 (.opt _ _ _ (λ_=>h3) λe=>?_) h4 h5);rw[x2,hT.1,hT.2]at e;cases e
  |false=>
   rw[j8 (λxT=>by
    simp only[Region.wanted,hg,hy]at xT;rw[x2]at hT;cases hc:c0 with
    |true=>
     rw[hc]at hT xT;have h1:(b==want)=true:=ao xT
     rw[h1]at hT;cases hT
    |false=>rw[hc]at xT;simp at xT)]
   exact⟨λf _=>C.F_fn f,hK undef w g (Add.refl _ g w) (.opt _ _ _ (λe=>by rw[hT]at e;cases e) λ_=>rfl) ⟨hr.sat.im,hr.sat.ob⟩ (λ_ _ h=>by cases h)⟩
 |@late i m fs o1 oe o2 e hm hl v8 hg hok hf hA hB=>
  intro N x1 hw;have hn:∀f∈fs,f.i<ops.size:=λf hf=>by have:=N f hf;omega
  refine .late e (bits ops.size m) hl v8 (ztg hn hok) hf ?_ ?_
  ·rw[zpN];exact hA.view λg a w hr=>zfO zho hw hr
  ·rw[zpS hg,zpN];exact hB.view λg a w hr=>zfO zho (zkL hg hw) hr
 |tail hok hf hx=>
  intro N x1 hw;refine .tail _ (ztg (λf hf=>by have:=N f hf;omega) hok) hf ?_;rw[zpN];exact hx.view λg a w hr=>zfO zho hw hr
section
variable{P:Program}{C:Ctx}{st:St}{ty:TypeId}{Q:Exit->St->Prop}{ops:Array Oper}{ms:List Nat}{hid:List Nat}{i m:Nat}{fs:List FactM}{o:Oper}{x:AV}{nb:Option (Nat×Blk)}
variable{d:Nat}
def y4{id:Nat}{l:List Oper}(hid ms:List Nat)(hm:P.follows .mixedOrders=true)(h:ChM P C l.toArray ms st hid Q 0 [])(he:zcU l.toArray=true:=by kernel_rfl)(N:zoc l.toArray ms=true:=by kernel_rfl):X P C (.region id l.toArray true) st Q:=
 zAb hid hm he (h.chain N (λf hf=>by simp at hf) (jU _) trivial)
def yb(h:ChM P C ops ms st hid Q (i+1) (⟨i,some d,x,none,m,[]⟩::fs))(hm:ms[i]? =some m:=by exact rfl)(ho:ops[i]? =some o:=by exact rfl)(K:o.guard=none:=by exact rfl)(N:o.dst=some d:=by exact rfl)(hs:Pur P C o.op o.type (stV st hid m fs []) x:=by exact yU)(hd:d.blt C.n=true:=by exact rfl):ChM P C ops ms st hid Q i fs:=
 .step hm ho K hs.stepA (by rw[N];exact hd) (by rw[N];exact h)
def yI{d:Nat}{f:FuncId}{caps xs:List AV}{r:AV}{fop:Operand}{args:Array Operand}{ts:Array TypeId}(hc:Fn P f (xs++caps) r)(h:ChM P C ops ms st hid Q (i+1) (⟨i,some d,r,none,m,[]⟩::fs))(hm:ms[i]? =some m:=by exact rfl)(ho:ops[i]? =some o:=by exact rfl)(hg:o.guard=none:=by exact rfl)(N:o.dst=some d:=by exact rfl)
 (K:o.op=.call {callee:=.value fop,args:=args,argTypes:=ts}:=by exact rfl)(hf:ev (stV st hid m fs []) fop=some (.fn f caps):=by exact rfl)(hx:evs (stV st hid m fs []) args.toList=some xs:=by exact rfl)(hn:AV.nm.nmL (xs++caps)=true:=by exact rfl)(hd:d.blt C.n=true:=by exact rfl):ChM P C ops ms st hid Q i fs:=
 .step hm ho hg (by rw[K];exact za4 hf hx hn (LeL.refl _) hc) (by rw[N];exact hd) (by rw[N];exact h)
def ChM.gi{d gi t:Nat}{want b c:Bool}{g0:List (Nat×Bool)}{p n:Prop}(h:ChM P C ops ms st hid Q (i+1) (⟨i,some d,x,none,m,(gi,want)::g0⟩::fs))(hm:ms[i]? =some m:=by exact rfl)(ho:ops[i]? =some o:=by exact rfl)(hg:o.guard=some (gi,want):=by exact rfl)(hod:o.dst=some d:=by exact rfl)(hi:(ops[gi]?).bind (·.dst)=some t:=by exact rfl)
 (hch:zc0 fs gi=g0:=by first|exact(rfl:_=[])|exact(rfl:_=[_])|exact(rfl:_=[_,_])|exact(rfl:_=[_,_,_]))(hb:lk (stR st hid m fs).t t=some (optV (zi fs g0) g0 (.bool b)):=by exact rfl)(hcd:za6 fs gi want=(b==want):=by exact rfl)(hg0:zdb fs ((gi,want)::g0)=true:=by exact rfl)
 (hcs:zi fs ((gi,want)::g0)=c:=by first|exact(rfl:_=((_:Bool)==_))|exact(rfl:_=(((_:Bool)==_)&&((_:Bool)==_)))|exact(rfl:_=(((_:Bool)==_)&&(((_:Bool)==_)&&((_:Bool)==_)))))(bp:BP c p n:=by exact inferInstance)(hs:p->Pur P C o.op o.type (stV st hid m fs ((gi,want)::g0)) x:=by intro hgd;exact yU)(hd:d.blt C.n=true:=by exact rfl):ChM P C ops ms st hid Q i fs:=
 .guard hm ho hg hi hb rfl hcd (zbt hg0) (λe=>(hs (bp.t (hcs.symm.trans e))).stepA) (by rw[hod];exact hd) (by rw[hod];exact h)
def ChM.lt(e:Nat){o1 oe o2:Oper}(K:Ex P C ops [o1,o2] (zgO st hid fs) Q)(hB:Ex P C ops [o1,oe,o2] (zgO st hid (fs.filter λf=>!(f.i==e))) Q)(hm:ms[i]? =some m:=by exact rfl)(hl:ops.toList.drop i=[o1,o2]:=by exact rfl)(N:ops[e]? =some oe:=by exact rfl)(hg:(fs.all λf=>f.g.isEmpty)=true:=by exact rfl)
 (hok:okFM st hid fs=true:=by exact rfl)(hf:zcV ops i e (bits ops.size m)=true:=by kernel_rfl):ChM P C ops ms st hid Q i fs:=.late e hm hl N hg hok hf K hB
def yD(h:Ex P C ops (ops.toList.drop i) (zgO st hid fs) Q)(hok:okFM st hid fs=true:=by exact rfl)(hf:zex ops i (bits ops.size (ms.getD i 0))=true:=by kernel_rfl):ChM P C ops ms st hid Q i fs:=.tail hok hf h
def zS{d i t:Nat}{want b:Bool}{rest:List Oper}{op:Op}{pos:String}{af:Array Edge}(h:Ex P C ops rest ⟨(d,x)::st.t,st.h⟩ Q)(hi:(ops[i]?).bind (·.dst)=some t:=by exact rfl)(N:lk st.t t=some (.bool b):=by exact rfl)(K:(b==want)=true:=by first|assumption|rfl|(simp_all;done)|omega)(hs:Pur P C op ty st x:=by exact yU)(hd:d.blt C.n=true:=by exact rfl):
 Ex P C ops ({dst:=some d,op:=op,type:=ty,pos:=pos,after:=af,guard:=some (i,want)}::rest) st Q:=zxP hi N K hs.stepA hd rfl h
def zbc{d i t:Nat}{want b:Bool}{rest:List Oper}{op:Op}{pos:String}{af:Array Edge}(h:Ex P C ops rest ⟨(d,.tup [])::st.t,st.h⟩ Q)(hi:(ops[i]?).bind (·.dst)=some t:=by exact rfl)(N:lk st.t t=some (.bool b):=by exact rfl)(K:(b==want)=false:=by first|assumption|rfl|(simp_all;done)|fail)(hd:d.blt C.n=true:=by exact rfl):
 Ex P C ops ({dst:=some d,op:=op,type:=ty,pos:=pos,after:=af,guard:=some (i,want)}::rest) st Q:=zDA hi N K hd h
end
def stF(st:St)(fs:List FactM)(G:List (Nat×Bool)):St:=⟨allV fs G st.t fs,zkJ st.h fs⟩
def stFR(st:St)(fs:List FactM):St:=⟨allR st.t fs,zkJ st.h fs⟩
def ExF(P:Program)(C:Ctx)(ops:Array Oper)(st:St)(Q:Exit->St->Prop)(i:Nat)(fs:List FactM):Prop:=
 (∀f∈fs,f.i<i)->WF fs->∀g a w,Rel C (stFR st fs) g a w->wpListIn C.F 0 P ops (lift C Q) (ops.toList.drop i) a w
section
variable{P:Program}{C:Ctx}{st:St}{ty:TypeId}{Q:Exit->St->Prop}{ops:Array Oper}{i:Nat}{fs:List FactM}{o:Oper}{x:AV}{nb:Option (Nat×Blk)}
variable{G:List (Nat×Bool)}{a:Act}{d:Nat}{g:Gh}{l:List Oper}{w:World}
def Rel.stF{C:Ctx}{st:St}{fs:List FactM}(N:WF fs)(K:zi fs G=true)(h:Rel C (stFR st fs) g a w):Rel C (stF st fs G) g a w:=
 h.view rfl (zmg K N λ_ _=>rfl)
def znd(st:St)(d:Option Nat)(x:AV)(nb:Option (Nat×Blk)):addSt st d x nb=⟨consT d x st.t,zkz nb st.h⟩:=by
 cases d<;>cases nb<;>rfl
def ExF.at(i:Nat)(h:ExF P C ops st Q i [])(hl:ops.toList.drop i=l:=by exact rfl):Ex P C ops l st Q:=λg a w hr=>hl▸h (λf hf=>by simp at hf) trivial g a w hr
def zpT{ops:Array Oper}{i:Nat}{o:Oper}(ho:ops[i]? =some o):ops.toList.drop i=o::ops.toList.drop (i+1):=by
 have N:=znc ho;rw[jQ (ao N)];congr 1;rw[jZ N]at ho;simpa using ho
def ExF.step(ho:ops[i]? =some o)(hg:o.guard=none)(hs:yy P C o.op o.type (stF st fs []) x nb)(hd:dOk C.n o.dst=true)(hn:nbOk (stFR st fs) nb=true)(h:ExF P C ops st Q (i+1) (⟨i,o.dst,x,nb,0,[]⟩::fs)):ExF P C ops st Q i fs:=λN hw g a w hr=>by
 rw[zpT ho];refine wpListIn_plain hg λK hK=>zaf<|hs g a w o.dst o.pos o.after o.guard (hr.stF hw rfl) K λv w' g' h2 h3 h4 h5=>hK _ _ ?_
 refine h (zix rfl N) (ziw rfl N (λe he=>by simp at he) hw) g' _ w' ?_;have:=hr.addSt h2 hd hn h3 h4.1 h4.2 h5;rw[znd]at this;exact this
def ExF.guard{gi t:Nat}{want b c0:Bool}{g0:List (Nat×Bool)}(ho:ops[i]? =some o)(hg:o.guard=some (gi,want))(hi:(ops[gi]?).bind (·.dst)=some t)(hb:lk (stFR st fs).t t=some (optV c0 g0 (.bool b)))
 (x2:zi fs g0=c0)(x0:za6 fs gi want=(b==want))(w2:∀e∈(gi,want)::g0,∃f'∈fs,f'.i=e.1)(hs:zi fs ((gi,want)::g0)=true->yy P C o.op o.type (stF st fs ((gi,want)::g0)) x none)(hd:dOk C.n o.dst=true)
 (h:ExF P C ops st Q (i+1) (⟨i,o.dst,x,none,0,(gi,want)::g0⟩::fs)):ExF P C ops st Q i fs:=λx1 hw g a w hr=>by
 rw[zpT ho];have hy:=zhG hr hi hb (λe=>by rw[e]at x2;exact x2.symm);have xT:zi fs ((gi,want)::g0)=((b==want)&&c0):=by rw[zbl,x0,x2]
 have next:∀g' a' w',Rel C (stFR st (⟨i,o.dst,x,none,0,(gi,want)::g0⟩::fs)) g' a' w'->wpListIn C.F 0 P ops (lift C Q) (ops.toList.drop (i+1)) a' w':=h (zix rfl x1) (ziw rfl x1 w2 hw)
 have put:∀g' v w',Add none g w g' w'->RV g'.I g'.ρ (.opt (zi fs ((gi,want)::g0)) x) v->ImOB g' w'->Rel C (stFR st (⟨i,o.dst,x,none,0,(gi,want)::g0⟩::fs)) g' (a.put o.dst v) w':=λg' v w' h2 h3 h4=>by
  have:=hr.addSt (nb:=none) h2 hd rfl h3 h4.1 h4.2 (λ_ _ h=>by cases h);rw[znd]at this;exact this
 unfold wpListIn;cases K:zi fs ((gi,want)::g0)with
 |true=>
  rw[xT,jE]at K;rw[j7 (by simp only[Region.wanted,hg,hy,K.2,if_true];simpa using K.1)];refine zaf (hs (by rw[xT,K.1,K.2];rfl) g a w o.dst o.pos o.after o.guard (hr.stF hw (by rw[xT,K.1,K.2];rfl)) _ λv w' g' h2 h3 h4 h5=>next _ _ _ (put g' v w' h2 (.opt _ _ _ (λ_=>h3) λe=>?_) h4));rw[xT,K.1,K.2]at e;cases e
 |false=>
  rw[j8 (λN=>by
   simp only[Region.wanted,hg,hy]at N;rw[xT]at K;cases hc:c0 with
   |true=>
    rw[hc]at K N;have h1:(b==want)=true:=ao N
    rw[h1]at K;cases K
   |false=>rw[hc]at N;simp at N)]
  exact⟨λf _=>C.F_fn f,next g _ w (put g undef w (Add.refl _ g w) (.opt _ _ _ (λe=>by rw[K]at e;cases e) λ_=>rfl) ⟨hr.sat.im,hr.sat.ob⟩)⟩
def zne(h:Ex P C ops (ops.toList.drop i) (stF st fs []) Q):ExF P C ops st Q i fs:=λN K g a w hr=>h g a w (hr.stF K rfl)
def yw(h:ExF P C ops st Q (i+1) (⟨i,some d,x,none,0,[]⟩::fs))(ho:ops[i]? =some o:=by exact rfl)(K:o.guard=none:=by exact rfl)(N:o.dst=some d:=by exact rfl)(hs:Pur P C o.op o.type (stF st fs []) x:=by exact yU)(hd:d.blt C.n=true:=by exact rfl):ExF P C ops st Q i fs:=
 .step ho K hs.stepA (by rw[N];exact hd) rfl (by rw[N];exact h)
def ExF.gi{d gi t:Nat}{want b c:Bool}{g0:List (Nat×Bool)}{p n:Prop}(h:ExF P C ops st Q (i+1) (⟨i,some d,x,none,0,(gi,want)::g0⟩::fs))(ho:ops[i]? =some o:=by exact rfl)(hg:o.guard=some (gi,want):=by exact rfl)(hod:o.dst=some d:=by exact rfl)(hi:(ops[gi]?).bind (·.dst)=some t:=by exact rfl)
 (hch:zc0 fs gi=g0:=by first|exact(rfl:_=[])|exact(rfl:_=[_])|exact(rfl:_=[_,_])|exact(rfl:_=[_,_,_]))(hb:lk (stFR st fs).t t=some (optV (zi fs g0) g0 (.bool b)):=by exact rfl)(hcd:za6 fs gi want=(b==want):=by exact rfl)(hg0:zdb fs ((gi,want)::g0)=true:=by exact rfl)
 (hcs:zi fs ((gi,want)::g0)=c:=by first|exact(rfl:_=((_:Bool)==_))|exact(rfl:_=(((_:Bool)==_)&&((_:Bool)==_)))|exact(rfl:_=(((_:Bool)==_)&&(((_:Bool)==_)&&((_:Bool)==_)))))(bp:BP c p n:=by exact inferInstance)(hs:p->Pur P C o.op o.type (stF st fs ((gi,want)::g0)) x:=by intro hgd;exact yU)(hd:d.blt C.n=true:=by exact rfl):ExF P C ops st Q i fs:=
 .guard ho hg hi hb rfl hcd (zbt hg0) (λe=>(hs (bp.t (hcs.symm.trans e))).stepA) (by rw[hod];exact hd) (by rw[hod];exact h)
def ExF.gs{d gi t:Nat}{want b:Bool}{g0:List (Nat×Bool)}(hs:yy P C o.op o.type (stF st fs ((gi,want)::g0)) x none)(h:ExF P C ops st Q (i+1) (⟨i,some d,x,none,0,(gi,want)::g0⟩::fs))(ho:ops[i]? =some o:=by exact rfl)(hg:o.guard=some (gi,want):=by exact rfl)(N:o.dst=some d:=by exact rfl)(hi:(ops[gi]?).bind (·.dst)=some t:=by exact rfl)
 (x2:zc0 fs gi=g0:=by first|exact(rfl:_=[])|exact(rfl:_=[_])|exact(rfl:_=[_,_])|exact(rfl:_=[_,_,_]))(hb:lk (stFR st fs).t t=some (optV (zi fs g0) g0 (.bool b)):=by exact rfl)(K:za6 fs gi want=(b==want):=by exact rfl)(xT:zdb fs ((gi,want)::g0)=true:=by exact rfl)
 (hd:d.blt C.n=true:=by exact rfl):ExF P C ops st Q i fs:=
 .guard ho hg hi hb rfl K (zbt xT) (λ_=>hs) (by rw[N];exact hd) (by rw[N];exact h)
def ExF.cg{d gi t:Nat}{want b:Bool}{g0:List (Nat×Bool)}{f:FuncId}{caps xs:List AV}{fop:Operand}{args:Array Operand}{ts:Array TypeId}(hc:Fn P f (xs++caps) x)(h:ExF P C ops st Q (i+1) (⟨i,some d,x,none,0,(gi,want)::g0⟩::fs))(ho:ops[i]? =some o:=by exact rfl)(hg:o.guard=some (gi,want):=by exact rfl)(N:o.dst=some d:=by exact rfl)(hi:(ops[gi]?).bind (·.dst)=some t:=by exact rfl)
 (x1:zc0 fs gi=g0:=by first|exact(rfl:_=[])|exact(rfl:_=[_])|exact(rfl:_=[_,_])|exact(rfl:_=[_,_,_]))(hb:lk (stFR st fs).t t=some (optV (zi fs g0) g0 (.bool b)):=by exact rfl)(K:za6 fs gi want=(b==want):=by exact rfl)(xT:zdb fs ((gi,want)::g0)=true:=by exact rfl)
 (x2:o.op=.call {callee:=.value fop,args:=args,argTypes:=ts}:=by exact rfl)(hf:ev (stF st fs ((gi,want)::g0)) fop=some (.fn f caps):=by exact rfl)(hx:evs (stF st fs ((gi,want)::g0)) args.toList=some xs:=by exact rfl)(hn:AV.nm.nmL (xs++caps)=true:=by exact rfl)(hd:d.blt C.n=true:=by exact rfl):ExF P C ops st Q i fs:=
 .guard ho hg hi hb rfl K (zbt xT) (λe=>by rw[x2];exact za4 hf hx hn (LeL.refl _) hc) (by rw[N];exact hd) (by rw[N];exact h)
def ChM.cg{ms:List Nat}{hid:List Nat}{m:Nat}{d gi t:Nat}{want b:Bool}{g0:List (Nat×Bool)}{f:FuncId}{caps xs:List AV}{fop:Operand}{args:Array Operand}{ts:Array TypeId}(hc:Fn P f (xs++caps) x)(h:ChM P C ops ms st hid Q (i+1) (⟨i,some d,x,none,m,(gi,want)::g0⟩::fs))(hm:ms[i]? =some m:=by exact rfl)(ho:ops[i]? =some o:=by exact rfl)(hg:o.guard=some (gi,want):=by exact rfl)(N:o.dst=some d:=by exact rfl)(hi:(ops[gi]?).bind (·.dst)=some t:=by exact rfl)
 (x1:zc0 fs gi=g0:=by first|exact(rfl:_=[])|exact(rfl:_=[_])|exact(rfl:_=[_,_])|exact(rfl:_=[_,_,_]))(hb:lk (stR st hid m fs).t t=some (optV (zi fs g0) g0 (.bool b)):=by exact rfl)(K:za6 fs gi want=(b==want):=by exact rfl)(xT:zdb fs ((gi,want)::g0)=true:=by exact rfl)
 (x2:o.op=.call {callee:=.value fop,args:=args,argTypes:=ts}:=by exact rfl)(hf:ev (stV st hid m fs ((gi,want)::g0)) fop=some (.fn f caps):=by exact rfl)(hx:evs (stV st hid m fs ((gi,want)::g0)) args.toList=some xs:=by exact rfl)(hn:AV.nm.nmL (xs++caps)=true:=by exact rfl)(hd:d.blt C.n=true:=by exact rfl):ChM P C ops ms st hid Q i fs:=
 .guard hm ho hg hi hb rfl K (zbt xT) (λe=>by rw[x2];exact za4 hf hx hn (LeL.refl _) hc) (by rw[N];exact hd) (by rw[N];exact h)
def ChM.cp{ms:List Nat}{hid:List Nat}{m:Nat}{d gi t:Nat}{want b c:Bool}{g0:List (Nat×Bool)}{p n:Prop}{f:FuncId}{caps xs:List AV}{fop:Operand}{args:Array Operand}{ts:Array TypeId}(hc:p->Fn P f (xs++caps) x)(h:ChM P C ops ms st hid Q (i+1) (⟨i,some d,x,none,m,(gi,want)::g0⟩::fs))(hm:ms[i]? =some m:=by exact rfl)(ho:ops[i]? =some o:=by exact rfl)(hg:o.guard=some (gi,want):=by exact rfl)(hod:o.dst=some d:=by exact rfl)(hi:(ops[gi]?).bind (·.dst)=some t:=by exact rfl)
 (hch:zc0 fs gi=g0:=by first|exact(rfl:_=[])|exact(rfl:_=[_])|exact(rfl:_=[_,_])|exact(rfl:_=[_,_,_]))(hb:lk (stR st hid m fs).t t=some (optV (zi fs g0) g0 (.bool b)):=by exact rfl)(hcd:za6 fs gi want=(b==want):=by exact rfl)(hg0:zdb fs ((gi,want)::g0)=true:=by exact rfl)
 (hcs:zi fs ((gi,want)::g0)=c:=by first|exact(rfl:_=((_:Bool)==_))|exact(rfl:_=(((_:Bool)==_)&&((_:Bool)==_)))|exact(rfl:_=(((_:Bool)==_)&&(((_:Bool)==_)&&((_:Bool)==_)))))(bp:BP c p n:=by exact inferInstance)(hop:o.op=.call {callee:=.value fop,args:=args,argTypes:=ts}:=by exact rfl)(hf:ev (stV st hid m fs ((gi,want)::g0)) fop=some (.fn f caps):=by exact rfl)(hx:evs (stV st hid m fs ((gi,want)::g0)) args.toList=some xs:=by exact rfl)(hn:AV.nm.nmL (xs++caps)=true:=by exact rfl)(hd:d.blt C.n=true:=by exact rfl):ChM P C ops ms st hid Q i fs:=
 .guard hm ho hg hi hb rfl hcd (zbt hg0) (λe=>by rw[hop];exact za4 hf hx hn (LeL.refl _) (hc (bp.t (hcs.symm.trans e)))) (by rw[hod];exact hd) (by rw[hod];exact h)
end
def yr{ι:Type}{C:Ctx}{st:St}{I:ι->List (Nat×AV)}{H:ι->List (Nat×Blk)}{J:ι->Prop}{μ:ι->Nat}{n:Nat}(i':ι)(hJ:J i':=by first|trivial|omega|(refine⟨?_,?_⟩<;>omega))(hm:μ i'<n:=by first|omega|(dsimp only;omega))(hI:Imp C st ⟨I i',H i'⟩:=by exact yh):
 ∃i',Imp C st ⟨I i',H i'⟩/\J i'/\μ i'<n:=⟨i',hI,hJ,hm⟩
end Go.Rse
namespace Go.Rse
open Go Go.RowKit
variable{C:Ctx}{P:Program}{c:Code}{e:Exit}{f:FuncId}{fn:Func}{hs hs':List (Nat×Blk)}{kp:List Nat}{n:Nat}{rv:List ResultVar}{st:St}{vs:List Value}
def znf(P:Program)(C:Ctx)(rv:List ResultVar)(r:AV)(vs:List Value)(cs:List AV)(hs':List (Nat×Blk))(e:Exit)(st:St):Prop:=
 (e=.normal\/e=.ret)/\∃ts ex,Imp C st ⟨ts,(kN,.hold vs cs)::(hs'++ex)⟩/\RetVs P ⟨ts,(kN,.hold vs cs)::(hs'++ex)⟩ rv r
def znf.mk{r:AV}{cs:List AV}(ts:List (Nat×AV))(ex:List (Nat×Blk))(he:e=.normal\/e=.ret)(hr:RetVs P ⟨ts,(kN,.hold vs cs)::(hs'++ex)⟩ rv r)(hi:Imp C st ⟨ts,(kN,.hold vs cs)::(hs'++ex)⟩:=by exact yh):znf P C rv r vs cs hs' e st:=
 ⟨he,ts,ex,hi,hr⟩
def FnO.introX{az:List AV}{ts:List (Nat×AV)}{r:AV}{cs:List AV}(hc:zy P f=true)(hf:P.funcs[f]? =some fn)(hb:fn.body=some c)(hn:fn.ntmps=n)(x2:fn.results=rv.toArray)
 (x1:zaE 0 az=ts)(N:az.length<=n)(x0:(hs.all λp=>!(p.1.beq kN))=true)(K:(hs'.all λp=>!(p.1.beq kN))=true)(w2:kp.mapM (hdr hs)=some cs)(xT:kp.mapM (hdr hs')=some cs)
 (h:∀g w d vs,X P (C0 n d g w) c ⟨ts,(kN,.hold vs cs)::hs⟩ (znf P (C0 n d g w) rv r vs cs hs')):FnO P f az hs kp r hs':=
 (FnE.intro hc hf hb hn x2 x1 N x0 (λ_=>K) w2 (λ_=>xT) λg w d vs=>X.mono (h g w d vs) λe st⟨he,ts',ex,h1,h2⟩=>⟨he,(),ts',ex,h1,h2⟩).one
def FnE.gx{P:Program}{f:FuncId}{fn:Func}{c:Code}{n:Nat}{az:List AV}{rv:List ResultVar}{ι:Type}{r:ι->AV}{hs:List (Nat×Blk)}{hs':ι->List (Nat×Blk)}{kp:List Nat}(cs:List AV)(hf:P.funcs[f]? =some fn)(hn:fn.ntmps=n)
 (h:∀g w d vs,X P (C0 n d g w) c ⟨zaE 0 az,(kN,.hold vs cs)::hs⟩ (zm3 P (C0 n d g w) rv r vs cs hs'))(hb:fn.body=some c:=by exact rfl)(x2:fn.results=rv.toArray:=by exact rfl)(hc:zy P f=true:=by kernel_rfl)(N:az.length<=n:=by simp)
 (x1:(hs.all λp=>!(p.1.beq kN))=true:=by exact rfl)(K:∀i,((hs' i).all λp=>!(p.1.beq kN))=true:=by intro _;exact rfl)(x0:kp.mapM (hdr hs)=some cs:=by exact rfl)(xT:∀i,kp.mapM (hdr (hs' i))=some cs:=by intro _;exact rfl):FnE P f az hs kp r hs':=
 FnE.intro hc hf hb hn x2 rfl N x1 K x0 xT h
def FnO.gx{P:Program}{f:FuncId}{fn:Func}{c:Code}{n:Nat}{az:List AV}{rv:List ResultVar}{r:AV}{hs hs':List (Nat×Blk)}{kp:List Nat}(cs:List AV)(hf:P.funcs[f]? =some fn)(hn:fn.ntmps=n)
 (h:∀g w d vs,X P (C0 n d g w) c ⟨zaE 0 az,(kN,.hold vs cs)::hs⟩ (zm4 P (C0 n d g w) rv r vs cs hs'))(hb:fn.body=some c:=by exact rfl)(x2:fn.results=rv.toArray:=by exact rfl)(hc:zy P f=true:=by kernel_rfl)(N:az.length<=n:=by simp)
 (x1:(hs.all λp=>!(p.1.beq kN))=true:=by exact rfl)(K:(hs'.all λp=>!(p.1.beq kN))=true:=by exact rfl)(x0:kp.mapM (hdr hs)=some cs:=by exact rfl)(xT:kp.mapM (hdr hs')=some cs:=by exact rfl):FnO P f az hs kp r hs':=
 FnO.intro hc hf hb hn x2 rfl N x1 K x0 xT h
def FnO.gX{P:Program}{f:FuncId}{fn:Func}{c:Code}{n:Nat}{az:List AV}{rv:List ResultVar}{r:AV}{hs hs':List (Nat×Blk)}{kp:List Nat}(cs:List AV)(hf:P.funcs[f]? =some fn)(hn:fn.ntmps=n)
 (h:∀g w d vs,X P (C0 n d g w) c ⟨zaE 0 az,(kN,.hold vs cs)::hs⟩ (znf P (C0 n d g w) rv r vs cs hs'))(hb:fn.body=some c:=by exact rfl)(x2:fn.results=rv.toArray:=by exact rfl)(hc:zy P f=true:=by kernel_rfl)(N:az.length<=n:=by simp)
 (x1:(hs.all λp=>!(p.1.beq kN))=true:=by exact rfl)(K:(hs'.all λp=>!(p.1.beq kN))=true:=by exact rfl)(x0:kp.mapM (hdr hs)=some cs:=by exact rfl)(xT:kp.mapM (hdr hs')=some cs:=by exact rfl):FnO P f az hs kp r hs':=
 FnO.introX hc hf hb hn x2 rfl N x1 K x0 xT h
def zc1{caps:List AV}{xs:List (List AV)}(hf:P.funcs[f]? =some fn)(hn:fn.ntmps=n)(h:∀g w d ds Y l,yA P l ds Y xs->X P (C1 n d ds Y g w) c ⟨zaE 0 (.yv l::caps),[(yN,.yld 0 true)]⟩ (ItQ xs.length))(hb:fn.body=some c:=by exact rfl)(K:fn.results= #[]:=by exact rfl)(hc:zy P f=true:=by kernel_rfl)(N:caps.length+1<=n:=by simp):It P f caps xs:=
 It.intro hc hf hb hn K (λ_=>rfl) N h
section
variable{P:Program}{C:Ctx}{st:St}{ty:TypeId}{Q:Exit->St->Prop}
def y0{ops:Array Oper}{rest:List Oper}{dst:Option Tmp}{pos:String}{af:Array Edge}{fop:Operand}{args:Array Operand}{ts:Array TypeId}{f:FuncId}{caps xs as':List AV}{hs hs':List (Nat×Blk)}{kp:List Nat}{r:AV}
 (μ:List (Nat×Nat))(h:FnO P f as' hs kp r hs')(hq:Ex P C ops rest (za5 st μ hs hs' dst r) Q)(hf:ev st fop=some (.fn f caps):=by exact rfl)(hx:evs st args.toList=some xs:=by exact rfl)(hμ:biOk μ=true:=by exact rfl)(xT:LeL (xs++caps) (as'.map (AV.ren μ)):=by exact LeL.refl _)(x2:as'.all (AV.okN (keys hs))=true:=by exact rfl)(x1:r.okN (keys hs')=true:=by exact rfl)
 (x0:zaq st μ (keys hs) hs:=by repeat'(first|exact True.intro|refine And.intro ⟨_,_,rfl,rfl,LeB.refl _,rfl⟩ ?_))(N:(hs'.all λp=>(fwd μ p.1).isSome&&p.2.okNB (keys hs'))=true:=by exact rfl)
 (K:(μ.all λp=>kp.any (·.beq p.1)||(hs.any (·.1.beq p.1)&&!(hs'.any (·.1.beq p.1)))||(!(hs.any (·.1.beq p.1))&&st.fr p.2))=true:=by exact rfl)
 (w2:(kp.all λn=>hs.any (·.1.beq n))=true:=by exact rfl)(hd:dOk C.n dst=true:=by exact rfl):
 Ex P C ops ({dst:=dst,op:=.call {callee:=.value fop,args:=args,argTypes:=ts},type:=ty,pos:=pos,after:=af,guard:=none}::rest) st Q:=zbr μ h hf hx hμ xT x2 x1 x0 N K w2 hd hq
def zaB{ops:Array Oper}{rest:List Oper}{dst:Option Tmp}{pos:String}{af:Array Edge}{fop:Operand}{args:Array Operand}{ts:Array TypeId}{f:FuncId}{caps xs as':List AV}{hs:List (Nat×Blk)}{kp:List Nat}{ι:Type}{hs':ι->List (Nat×Blk)}{r:ι->AV}
 (μ:List (Nat×Nat))(h:FnE P f as' hs kp r hs')(hq:∀i,Ex P C ops rest (za5 st μ hs (hs' i) dst (r i)) Q)(hf:ev st fop=some (.fn f caps):=by exact rfl)(hx:evs st args.toList=some xs:=by exact rfl)(hμ:biOk μ=true:=by exact rfl)(x1:LeL (xs++caps) (as'.map (AV.ren μ)):=by exact LeL.refl _)(x0:as'.all (AV.okN (keys hs))=true:=by exact rfl)(w2:∀i,(r i).okN (keys (hs' i))=true:=by intro _;exact rfl)
 (v9:zaq st μ (keys hs) hs:=by repeat'(first|exact True.intro|refine And.intro ⟨_,_,rfl,rfl,LeB.refl _,rfl⟩ ?_))(N:∀i,((hs' i).all λp=>(fwd μ p.1).isSome&&p.2.okNB (keys (hs' i)))=true:=by intro _;exact rfl)
 (xT:∀i,(μ.all λp=>kp.any (·.beq p.1)||(hs.any (·.1.beq p.1)&&!((hs' i).any (·.1.beq p.1)))||(!(hs.any (·.1.beq p.1))&&st.fr p.2))=true:=by intro _;exact rfl)
 (v8:(kp.all λn=>hs.any (·.1.beq n))=true:=by exact rfl)(hd:dOk C.n dst=true:=by exact rfl):
 Ex P C ops ({dst:=dst,op:=.call {callee:=.value fop,args:=args,argTypes:=ts},type:=ty,pos:=pos,after:=af,guard:=none}::rest) st Q:=λg a w hr=>
 wpListIn_plain rfl λK hK=>zaf<|by
 obtain⟨us,e,hl,hu⟩:=zcE (yq hr hf);have x2:RVL g.I g.ρ (as'.map (AV.ren μ)) (args.toList.map a.eval++us):=x1.rvl ((zdP hr hx).append ⟨hl,hu⟩);have e1:(args.toList.map a.eval++us).toArray=args.map a.eval++us.toArray:=ak
 have e2:(execOp a.eval {dst:=dst,op:=.call {callee:=.value fop,args:=args,argTypes:=ts},type:=ty,pos:=pos,after:=af,guard:=none}).run P w=.ok (.enter f (args.toList.map a.eval++us).toArray) w:=by
  simp only[execOp,resolve,e,Deferred.ofValue,jM,jP,jH,invoke,zN h.1,e1];simp
 unfold wp1;rw[e2]
 refine core_TE (T:=Calls P f) (E:=λe v=>e=.returned v) (λh hm=>Calls.mono h hm) μ h.2 hμ x0 w2 v9 (λi p hp=>by simpa using jF.1 (N i) p hp) (λi p hp=>?_) (λn hn=>jF.1 v8 n hn) hd hr x2 λi e w' v g' he v5=>by
  subst he;exact⟨v,rfl,hK _ _ (hq i g' _ w' v5)⟩
 have:=jF.1 (xT i) p hp;simp only[wL,jE,wP]at this;rcases this with(h1|h1)|h1
 ·exact .inl h1
 ·exact .inr (.inl h1)
 ·exact .inr (.inr h1)
end
end Go.Rse
namespace Go.Rse
open Go Go.RowKit
def andI(p q:Int):Int:=IntKind.i64.wrap ((BitVec.ofInt 64 p&&&BitVec.ofInt 64 q).toNat:Int)
section
variable{P:Program}{C:Ctx}{st:St}{ty:TypeId}{x y:Operand}{xt yt:TypeId}{k k':IntKind}{p q:Int}
variable{a:Act}{g:Gh}{op:BinOp}{w:World}
def zgP(hr:Rel C st g a w)(hx:ev st x=some (.int k p))(N:ev st y=some (.int k' q))(dst:Option Tmp)(pos:String)(af:Array Edge)(gd:Option (Nat×Bool))(r:Value)
 (h:(binOp op xt (.int k p) (.int k' q)).run P w=.ok r w):(execOp a.eval {dst:=dst,op:=.binOp op xt x y yt,type:=ty,pos:=pos,after:=af,guard:=gd}).run P w=.ok (.value r) w:=by
 have ex:=yK (yq hr hx);have ey:=yK (yq hr N)
 have K:(eqGuard op xt x y (.int k p) (.int k' q)).run P w=.ok () w:=by
  unfold eqGuard;cases op<;>simp
 simp only[execOp,ex,ey,jM,K,jH,h,jP]
def zth(hx:ev st x=some (.int .i64 p))(K:ev st y=some (.int k' q))(h0:0<=q)(h1:q<=63)(N:IntKind.i64.wrap (p*2^q.toNat)=p*2^q.toNat):Pur P C (.binOp .shl xt x y yt) ty st (.int .i64 (p*2^q.toNat)):=λg a w dst pos af gd hr=>
 ⟨_,zgP hr hx K dst pos af gd (.int .i64 (p*2^q.toNat)) (by
  have e:min q.toNat IntKind.i64.bits=q.toNat:=by show min q.toNat 64=q.toNat;omega
  simp[binOp,Op.shift,show¬q<0 by omega,e,N]),.int _ _⟩
def zAg(hx:ev st x=some (.int .i64 p))(N:ev st y=some (.int k' 1)):Pur P C (.binOp .shr xt x y yt) ty st (.int .i64 (p/2)):=λg a w dst pos af gd hr=>
 ⟨_,zgP hr hx N dst pos af gd (.int .i64 (p/2)) (by
  have e:min (1:Int).toNat IntKind.i64.bits=1:=rfl;have e2:p.fdiv (2^1)=p/2:=Int.fdiv_eq_ediv_of_nonneg p ac;simp only[binOp,Op.shift,e,e2];rfl),.int _ _⟩
def zAh(hx:ev st x=some (.int .i64 p))(N:ev st y=some (.int .i64 q)):Pur P C (.binOp .and xt x y yt) ty st (.int .i64 (andI p q)):=λg a w dst pos af gd hr=>
 ⟨_,zgP hr hx N dst pos af gd (.int .i64 (andI p q)) (by simp[binOp,Op.intBits];rfl),.int _ _⟩
end
end Go.Rse
namespace Go.Rse
open Go Go.RowKit
section plain
variable{α:Type}
def mix(q:Int):List (Int×α)->Nat->Option (Nat×α)
 |[],_=>none
 |p::r,i=>if p.1=q then some (i,p.2)else mix q r (i+1)
def mget(q:Int)(l:List (Int×α)):Option α:=(mix q l 0).map (·.2)
def mput(q:Int)(x:α)(l:List (Int×α)):List (Int×α):=match mix q l 0 with
 |some (i,_)=>l.set i (q,x)
 |none=>l++[(q,x)]
def zeF{q:Int}{d:IntKind}:∀(l:List (Int×α))(es:List MapEntry)(i:Nat),es.length=l.length->(∀(j:Nat)e p,es[j]? =some e->l[j]? =some p->e.key=.int .i64 p.1)→
 (mix q l i=none/\Instr.findNow (.int d) (.int .i64 q) es i=some none)\/∃j e x,mix q l i=some (i+j,x)/\Instr.findNow (.int d) (.int .i64 q) es i=some (some (i+j,e.val))/\es[j]? =some e/\l[j]? =some (q,x)
 |[],[],i,_,_=>.inl ⟨rfl,rfl⟩
 |[],_::_,i,h,_=>by simp at h
 |_::_,[],i,h,_=>by simp at h
 |p::l,e::es,i,hl,hk=>by
  have K:e.key=.int .i64 p.1:=hk 0 e p rfl rfl;by_cases N:p.1=q
  ·refine .inr ⟨0,e,p.2,by simp[mix,N],by simp[Instr.findNow,Instr.sameNow,K,N],rfl,?_⟩;rw[←N];rfl
  ·have xT:¬q=p.1:=λx=>N x.symm
   have hs:Instr.sameNow (.int d) (.int .i64 q) e.key=some false:=by rw[K];simp[Instr.sameNow,xT]
   rcases zeF (q:=q) (d:=d) l es (i+1) (ao hl) (λj e' p' h1 h2=>hk (j+1) e' p' h1 h2)with⟨h1,h2⟩|⟨j,e',x,h1,h2,h3,h4⟩
   ·exact .inl ⟨by simp[mix,N,h1],by simp[Instr.findNow,hs,h2]⟩
   ·refine .inr ⟨j+1,e',x,by simp[mix,N,h1];omega,?_,h3,h4⟩;simp[Instr.findNow,hs,h2];omega
end plain
section
variable{P:Program}{C:Ctx}{st:St}{ty:TypeId}{Q:Exit->St->Prop}
variable{I:Im}{b k:Nat}{q:Int}{t:TypeId}{v:Value}{w:World}{α:Type}{ρ:Nat->Value}{l:List (Int×α)}
def zdc(h:RV I ρ (.mp k) v):∃b,v=.map (some b)/\ρ k=.map (some b):=by cases h with|mp _ b h=>exact⟨b,rfl,h⟩
def zaH{κ:Type}(kenc:κ->AV)(venc:α->AV):yy P C (.makeMap t none) ty st (.mp k) (some (k,.mpb kenc venc [])):=
 zM λg a w dst pos af gd hr=>by
  refine⟨.map (some w.heap.size),w.alloc (.map #[] 0),g.nw C.d w.heap.size k (.map (some w.heap.size)),?_,Add.nw (Grow.alloc _ (.map #[] 0)) C.d k _,.mp k _ (by simp[Gh.nw]),ImOB.nw ⟨hr.sat.im,hr.sat.ob⟩ (Grow.alloc _ _) ah C.d k _,λk' B N=>?_⟩
  ·simp[execOp,Instr.makeMap,run_newObj,Result.andThen]
  ·injection N with N;injection N with e1 e2;subst e1;subst e2;exact⟨w.heap.size, #[],0,by simp[Gh.nw],by simp[Gh.nw],.inl hr.ext.size,heap_alloc_new w _,⟨rfl,rfl,λi e he=>by simp at he⟩,λi e p he K=>by simp at he⟩
def mpOk(P:Program)(t K E:TypeId):Prop:=P.underlying t=some (.map K E)/\∃d,P.underlying K=some (.int d)
def zng{venc:α->AV}{K E:TypeId}{x y:Operand}(z0:α)(hx:ev st x=some (.mp k))(hk:lk st.h k=some (.mpb (λi:Int=>.int .i64 i) venc l))(hy:ev st y=some (.int .i64 q))
 (ht:mpOk P t K E)(hd:∃d,P.underlying K=some (.int d)/\d=.i64)(hf:∀v k,(venc v).fr k=true)(hz:∃z i,P.info? E=some i/\i.zero=some z/\∀I,RV I noNames (venc z0) z):
 Pur P C (.lookup t x y true) ty st (.tup [venc ((mget q l).getD z0),.bool (mget q l).isSome]):=λg a w dst pos af gd hr=>by
 obtain⟨b,es,ck,h1,h2,h3,h4,h5,h6⟩:=hr.sat.blk k _ hk
 have ex:a.eval x=.map (some b):=by
  obtain⟨b',e1,e2⟩:=zdc (yq hr hx);rw[e1,←e2,h1]
 have ey:=yK (yq hr hy);obtain⟨d,xT,rfl⟩:=hd;obtain⟨z,i,hi,x1,x0⟩:=hz;have x2:∀(j:Nat)e p,es.toList[j]? =some e->l[j]? =some p->e.key=.int .i64 p.1:=λj e p he hp=>yK (h6 j e p (ao he) hp).1
 rcases zeF (q:=q) (d:=.i64) l es.toList 0 (ao h5.1) x2 with⟨m1,m2⟩|⟨j,e,v,m1,m2,m3,m4⟩
 ·refine⟨.tuple #[z,.bool false],?_,?_⟩
  ·simp[execOp,ex,ey,Instr.lookup,run_underlying ht.1,MapKept.run_getObj_map h4,MapKept.run_checkKey xT (show MapKept.IsKey (.int .i64) (.int .i64 q)from rfl),MapKept.run_findKey xT m2,Result.andThen,zeroValue,typeInfo,hi,x1]
  ·have e1:(mget q l).getD z0=z0:=by simp[mget,m1]
   have e2:(mget q l).isSome=false:=by simp[mget,m1]
   rw[e1,e2];refine .tup _ [z,.bool false] rfl λj c v N hv=>?_
   rcases j with _|_|j
   ·simp at N hv;subst N;subst hv;exact(x0 g.I).forget' (hf _)
   ·simp at N hv;subst N;subst hv;exact .bool _
   ·simp at N
 ·simp only[u6]at m1 m2;refine⟨.tuple #[e.val,.bool true],?_,?_⟩
  ·simp[execOp,ex,ey,Instr.lookup,run_underlying ht.1,MapKept.run_getObj_map h4,MapKept.run_checkKey xT (show MapKept.IsKey (.int .i64) (.int .i64 q)from rfl),MapKept.run_findKey xT m2,Result.andThen]
  ·have e1:(mget q l).getD z0=v:=by simp[mget,m1]
   have e2:(mget q l).isSome=true:=by simp[mget,m1]
   rw[e1,e2];refine .tup _ [e.val,.bool true] rfl λj' c u N hv=>?_
   rcases j' with _|_|j'
   ·simp at N hv;subst N;subst hv;exact(h6 j e (q,v) (ao m3) m4).2.forget' (hf _)
   ·simp at N hv;subst N;subst hv;exact .bool _
   ·simp at N
def zbJ{o o':Obj}(h:w.heap[b]? =some o):w.grownBy {w with heap:=w.heap.setIfInBounds b o'} (some b):=
 ⟨rfl,rfl,rfl,ah,λk hk N=>(MapKept.heap_set h).2 k (λe=>N (by rw[e]))⟩
def zal{venc:α->AV}{K E:TypeId}{x y z:Operand}{u:AV}(v:α)(hx:ev st x=some (.mp k))(hk:lk st.h k=some (.mpb (λi:Int=>.int .i64 i) venc l))(hy:ev st y=some (.int .i64 q))
 (hz:ev st z=some u)(hu:u=venc v)(ht:mpOk P t K E)(hd:∃d,P.underlying K=some (.int d)/\d=.i64)(hf:∀v k,(venc v).fr k=true):
 yu P C (.mapUpdate t x y z) ty none st (putH st k (.mpb (λi:Int=>.int .i64 i) venc (mput q v l))):=λg a w pos af gd hr K' hK=>by
 obtain⟨b,es,ck,h1,h2,h3,h4,h5,h6⟩:=hr.sat.blk k _ hk
 have ex:a.eval x=.map (some b):=by
  obtain⟨b',e1,e2⟩:=zdc (yq hr hx);rw[e1,←e2,h1]
 have ey:=yK (yq hr hy);have ez:RV g.I noNames (venc v) (a.eval z):=(hu▸yq hr hz).forget' (hf v);obtain⟨d,x2,rfl⟩:=hd;have xT:∀(j:Nat)e p,es.toList[j]? =some e->l[j]? =some p->e.key=.int .i64 p.1:=λj e p he N=>yK (h6 j e p (ao he) N).1
 have x0:MapKept.IsKey (.int .i64) (.int .i64 q):=rfl;rcases zeF (q:=q) (d:=.i64) l es.toList 0 (ao h5.1) xT with⟨m1,m2⟩|⟨j,e,v0,m1,m2,m3,m4⟩
 ·have er:(Instr.mapUpdate t (.map (some b)) (.int .i64 q) (a.eval z)).run P w=.ok () {w with heap:=w.heap.setIfInBounds b (.map (es.push {key:=.int .i64 q,val:=a.eval z,born:=ck}) (ck+1))}:=by
   simp[Instr.mapUpdate,run_underlying ht.1,MapKept.run_getObj_map h4,MapKept.run_checkKey x2 x0,MapKept.run_findKey x2 m2,MapKept.run_setObj_map _ h4,Result.andThen]
  simp only[wp1,execOp,ex,ey,jM,er,jH,jP,zbH];refine hK _ _ _ (hr.modify h2 h3 (zbJ h4) (jG _) ⟨b,_,_,h1,h2,h3,(MapKept.heap_set h4).1,⟨?_,?_,?_⟩,?_⟩)
  ·simp[mput,m1,h5.1]
  ·simp[mput,m1,h5.2.1]
  ·intro i e he;rw[xO]at he;split at he
   ·next x1=>injection he with he;subst he;rw[x1];exact h5.2.1.trans h5.1.symm
   ·exact h5.2.2 i e he
  ·intro i e p he N;simp only[mput,m1]at N;rw[xO]at he;rw[uQ]at N;by_cases hi:i<es.size
   ·rw[j8 aa]at he;rw[j7 aa]at N;exact h6 i e p he N
   ·split at he
    ·next x1=>
     injection he with he;subst he;rw[j8 aa]at N;have:i-l.length=0:=aa
     rw[this]at N;simp at N;subst N;exact⟨.int _ _,ez⟩
    ·rw[vK aa]at he;simp at he
 ·simp only[u6]at m1 m2;have w2:e.key=.int .i64 q:=xT j e _ m3 m4;have hj:es[j]? =some e:=ao m3
  have er:(Instr.mapUpdate t (.map (some b)) (.int .i64 q) (a.eval z)).run P w=.ok () {w with heap:=w.heap.setIfInBounds b (.map (es.modify j λe=>{e with key:=.int .i64 q,val:=a.eval z}) ck)}:=by
   simp[Instr.mapUpdate,run_underlying ht.1,MapKept.run_getObj_map h4,MapKept.run_checkKey x2 x0,MapKept.run_findKey x2 m2,hj,w2,MapKept.run_keyThatStays x0,MapKept.run_setObj_map _ h4,Result.andThen]
  simp only[wp1,execOp,ex,ey,jM,er,jH,jP,zbH];refine hK _ _ _ (hr.modify h2 h3 (zbJ h4) (jG _) ⟨b,_,_,h1,h2,h3,(MapKept.heap_set h4).1,⟨?_,?_,?_⟩,?_⟩)
  ·simp[mput,m1,h5.1]
  ·simp[mput,m1,h5.2.1]
  ·intro i e' he;rw[v6]at he;split at he
   ·next x1=>
    subst x1;rw[hj]at he;simp at he;subst he;exact h5.2.2 j e hj
   ·exact h5.2.2 i e' he
  ·intro i e' p he N;simp only[mput,m1]at N;rw[v6]at he;rw[vF]at N;by_cases hi:j=i
   ·subst hi;rw[j7 rfl]at he N;rw[hj]at he;simp at he;subst he;split at N
    ·injection N with N;subst N;exact⟨.int _ _,ez⟩
    ·simp at N
   ·rw[j8 hi]at he N;exact h6 i e' p he N
end
end Go.Rse
namespace Go.Rse
open Go Go.RowKit
section
variable{P:Program}{C:Ctx}{st:St}{Q:Exit->St->Prop}{ty:TypeId}
variable{E:TypeId}{H:List (Nat×Blk)}{T:TypeId}{ag:Bool}{g:Gh}{hid ms:List Nat}{ops:Array Oper}{s:Nat}{vs:List Value}{w:World}{x y:Code}{ι:Type}
def Imp.ax{ts:List (Nat×AV)}{hs:List (Nat×Blk)}(h1:impT st ts:=by
 repeat'(first|exact True.intro|(refine And.intro ⟨_,rfl,?_⟩ ?_;(first|exact LeV.refl _|exact LeV.any _|exact LeB.refl _|(refine LeV.eq ?_;simp;done)|(refine LeV.eq ?_;congr 1;omega)|(refine LeV.eq ?_;dsimp only;congr 1;omega)|(refine LeV.eq (jA (AV.int _) ?_);omega)|exact LeV.nils _|(refine LeV.eq ?_;congr 1<;>assumption)|(refine LeV.eq ?_;assumption)))))(N:impH st hs:=by
 repeat'(first|exact True.intro|(refine And.intro ⟨_,rfl,?_⟩ ?_;(first|exact LeB.refl _|exact LeB.row ai|(refine LeB.eq ?_;congr 1<;>assumption)|(refine LeB.eq ?_;congr 1;omega)|(refine LeB.eq ?_;congr 1;simp only[cond_true,cond_false];omega))))):Imp C st ⟨ts,hs⟩:=Imp.of h1 N
def zar{i m:Nat}{fs:List FactM}(e:Nat)(stJ:St){o1 oe o2:Oper}(hA:∀Q',Ex P C ops [] stJ Q'->Ex P C ops [o1,o2] (zgO st hid fs) Q')(hB:∀Q',Ex P C ops [] stJ Q'->Ex P C ops [o1,oe,o2] (zgO st hid (fs.filter λf=>!(f.i==e))) Q')(K:Ex P C ops [] stJ Q)
 (hm:ms[i]? =some m:=by exact rfl)(hl:ops.toList.drop i=[o1,o2]:=by exact rfl)(N:ops[e]? =some oe:=by exact rfl)(hg:(fs.all λf=>f.g.isEmpty)=true:=by exact rfl)
 (hok:okFM st hid fs=true:=by exact rfl)(hf:zcV ops i e (bits ops.size m)=true:=by kernel_rfl):ChM P C ops ms st hid Q i fs:=.late e hm hl N hg hok hf (hA Q K) (hB Q K)
def zbm(stJ:St)(h:X P C y stJ Q->X P C x st (zcb (λst'=>X P C y st' Q) Q))(hJ:X P C y stJ Q):X P C (.seq x y) st Q:=ye (h hJ)
inductive SelR{α:Type 1}(t:List (Nat×α)):List Nat->List (Nat×α)->Prop
 |n:SelR t [] []
 |c{k:Nat}{a:α}{K:List Nat}{r:List (Nat×α)}(h:lk t k=some a)(hs:SelR t K r):SelR t (k::K) ((k,a)::r)
def zag{c:Code}{T:List (Nat×AV)}(KT:List Nat)(I:ι->List (Nat×AV)->List (Nat×AV))(KH:List Nat)(B:ι->List (Nat×Blk)->List (Nat×Blk))(J:ι->Prop)(μ:ι->Nat)(i0:ι)(h:∀i,J i->X P C c ⟨I i T,B i H⟩ (zcb (λst'=>∃i',Imp C st' ⟨I i' T,B i' H⟩/\J i'/\μ i'<μ i) Q))
 (_:SelR st.t KT T:=by repeat'(first|exact .n|apply SelR.c rfl))(_:SelR st.h KH H:=by repeat'(first|exact .n|apply SelR.c rfl))(hJ:J i0:=by first|trivial|omega|(refine⟨?_,?_⟩<;>omega))(h0:Imp C st ⟨I i0 T,B i0 H⟩:=by exact Imp.ax):X P C (.loop c) st Q:=ze8 (λi=>I i T) (λi=>B i H) J μ i0 h hJ h0
def y9{c:Code}{T:List (Nat×AV)}(KT:List Nat)(I:Nat->List (Nat×AV)->List (Nat×AV))(KH:List Nat)(B:Nat->List (Nat×Blk)->List (Nat×Blk))(n:Nat)(h:∀i,i<=n->X P C c ⟨I i T,B i H⟩ (zcb (λst'=>∃i',Imp C st' ⟨I i' T,B i' H⟩/\i'<=n/\n-i'<n-i) Q))
 (N:SelR st.t KT T:=by repeat'(first|exact .n|apply SelR.c rfl))(K:SelR st.h KH H:=by repeat'(first|exact .n|apply SelR.c rfl))(h0:Imp C st ⟨I 0 T,B 0 H⟩:=by exact Imp.ax):X P C (.loop c) st Q:=zag KT I KH B (λk=>k<=n) (λk=>n-k) 0 h N K (jU _) h0
def zh6{T:List (Nat×AV)}(KT:List Nat)(I:List (Nat×AV)->List (Nat×AV))(KH:List Nat)(B:List (Nat×Blk)->List (Nat×Blk))(h:X P C y ⟨I T,B H⟩ Q->X P C x st (zcb (λst'=>X P C y st' Q) Q))(hJ:X P C y ⟨I T,B H⟩ Q)(_:SelR st.t KT T:=by repeat'(first|exact .n|apply SelR.c rfl))(_:SelR st.h KH H:=by repeat'(first|exact .n|apply SelR.c rfl)):X P C (.seq x y) st Q:=ye (h hJ)
def zqt(A X B cs:List AV)(j:Nat)(h:j+cs.length<=X.length):setAt (A++(X++B)) (A.length+j) cs=A++(setAt X j cs++B):=by
 unfold setAt
 have t1:(A++(X++B)).take (A.length+j)=A++X.take j:=by
  rw[List.take_length_add_append,wM aa]
 have t2:(A++(X++B)).drop (A.length+j+cs.length)=X.drop (j+cs.length)++B:=by
  rw[uB,List.drop_length_add_append,List.drop_append_of_le_length h]
 rw[t1,t2];simp only[u4]
def zti{α:Type}{enc:α->List AV}(he:∀x,(enc x).length=s){l:List α}{i j:Nat}{x x':α}{cs:List AV}(hx:l[i]? =some x)(K:j+cs.length<=s)(hc:enc x'=setAt (enc x) j cs):
 (l.set i x').flatMap enc=setAt (l.flatMap enc) (i*s+j) cs:=by
 obtain⟨hi,ex⟩:=j5.1 hx
 have hl:l.set i x'=l.take i++([x']++l.drop (i+1)):=by
  rw[List.set_eq_take_append_cons_drop,j7 hi];simp
 have N:l=l.take i++([x]++l.drop (i+1)):=by
  conv=>lhs;rw[←wV i l,jQ hi,ex]
  rfl
 have hA:((l.take i).flatMap enc).length=i*s:=by rw[zq _ (λ_ x _=>he x),jO,kO aa]
 have e1:l.flatMap enc=(l.take i).flatMap enc++(enc x++(l.drop (i+1)).flatMap enc):=by
  conv=>lhs;rw[N]
  simp only[uG,uH,List.flatMap_nil,wQ]
 rw[hl,e1,←hA,zqt _ _ _ _ _ (by rw[he];exact K),←hc];simp only[uG,uH,List.flatMap_nil,wQ]
def Rel.row_writeC{a:Act}(hr:Rel C st g a w){α:Type}{enc:α->List AV}{l l':List α}{k p b:Nat}{cs:List AV}(hk:lk st.h k=some (.row enc l E s))(he:∀x,(enc x).length=s)(v9:0<s)
 (xT:RVL g.I noNames cs vs)(x2:∀u∈vs,u.oneCell'=true)(v8:p+cs.length<=l.length*s)(hb:yT (g.ρ k)=some b)(N:l'.length=l.length)(v5:l'.flatMap enc=setAt (l.flatMap enc) p cs):
 ∃w',(storeCells ⟨b,p,none⟩ vs 0).run P w=.ok () w'/\Rel C (putH st k (.row enc l' E s)) g a w':=by
 obtain⟨xs,hw,h1,h2,h3⟩:=hr.sat.blk k _ hk;rcases hw.2 with⟨hv,_⟩|⟨b',cap,cur,hv,v4,hh,x1,v3,x0,v2⟩
 ·rw[hv]at hb;simp[yT]at hb
 ·have:b'=b:=by rw[hv]at hb;simpa[yT]using hb
  subst this;have k8:vs.length=cs.length:=xT.1;have k7:l.length*s<=cap*s:=jX s x1;have v1:p+cs.length<=l.length*s:=v8;have v0:=run_storeCells_at (P:=P) b' p E vs 0 cur w hh aa x2;refine⟨_,v0,hr.modify (h3 b' (by rw[hv];rfl)).1 (h3 b' (by rw[hv];rfl)).2 zcG (jG _) ?_⟩;have k9:cur.toList.length=cap*s:=ao x0
  have w2:=zcW h1 hw.1 h2 v9;have K:=w2.setAt xT p (by rw[zq l h1];exact v1);rw[←v5]at K
  have hx:List.take (l.length*s) (cur.toList.take (p+0)++vs++cur.toList.drop (p+0+vs.length))=xs.take p++vs++xs.drop (p+vs.length):=by
   rw[←v2];apply wN;intro j;simp only[uX,w4,uQ,jJ,jO,k9,wI];rw[show min p (cap*s)=p by omega,show min (l.length*s) (cap*s)=l.length*s by omega,show min p (l.length*s)=p by omega];by_cases q0:j<l.length*s
   ·rw[j7 q0];by_cases q1:j<p
    ·simp[q1,show j<p+vs.length by omega,q0]
    ·by_cases q2:j<p+vs.length
     ·simp[q1,q2]
     ·simp[q2,show p+vs.length+(j-(p+vs.length))<l.length*s by omega]
   ·rw[j8 q0];rw[j8 aa];rw[j8 aa]
  refine⟨xs.take p++vs++xs.drop (p+vs.length),⟨?_,.inr ⟨b',cap,(cur.toList.take (p+0)++vs++cur.toList.drop (p+0+vs.length)).toArray,by rw[hv,N],v4,setRow_heap w b' cur _ E _ hh,by rw[N];exact x1,v3,aj,by rw[N];simpa using hx⟩⟩,λi x h=>he x,zb0 (λi x h=>he x) K,h3⟩;rw[N];have:=hw.1;simp;omega
def y6{α:Type}{enc:α->List AV}{l:List α}{x y:Operand}{k i j:Nat}{u:AV}{n:Nat}(x0 x':α)(hx:ev st x=some (.ptr k s i j))(hk:lk st.h k=some (.row enc l E s))(h0:l[i]? =some x0)(he:∀x,(enc x).length=s)(x1:0<s)
 (hy:ev st y=some u)(hu:enc x'=setAt (enc x0) j u.cl)(hn:u.cl.length=n)(hj:j+n<=s)(hp:zjo u=true)(w2:scL u.cl=true)(v9:AV.nm.nmL u.cl=true)(ht:tyOk P T ag n=true):yu P C (.store T x y) ty none st (putH st k (.row enc (l.set i x') E s)):=λg a w pos af gd hr K hK=>by
 obtain⟨b,hb,e⟩:=zad (yq hr hx);have N:=zjp (yq hr hy) hp;have v8:RVL g.I noNames u.cl (a.eval y).cells.toList:=N.forget v9
 have xT:∀v∈(a.eval y).cells.toList,v.oneCell'=true:=λv hv=>by
  obtain⟨q,hq⟩:=jL.1 hv;have x2:q<u.cl.length:=by rw[←N.1];exact(j5.1 hq).1
  exact(za9 (N.2 q _ v (jC x2) hq) (zdO w2 (jC x2))).2
 have hi:i<l.length:=(j5.1 h0).1;have v4:i*s+s<=l.length*s:=by rw[←xL];exact jX s hi
 obtain⟨w',h1,h2⟩:=hr.row_writeC (P:=P) (p:=i*s+j) (l':=l.set i x') hk he x1 v8 xT aa hb (xW ..) (zti he h0 aa hu);simp only[wp1,execOp,Instr.storeAt,e,Instr.sureAddr,jM,jP,jH,storeVar,yJ ht];have v5:(a.eval y).cells.size=n:=by have:=N.1;rw[hn]at this;simpa using this
 rw[j8 (by simp[v5])];simp only[h1,jH,zbH];exact hK _ _ _ h2
def znh(h:(P.info? T).bind (·.zero)=some (.agg #[.int .i64 0,.int .i64 0])):∃z i,P.info? T=some i/\i.zero=some z/\∀I,RV I noNames (.agg [.int .i64 0,.int .i64 0]) z:=by
 cases hi:P.info? T with
 |none=>rw[hi]at h;cases h
 |some i=>
  rw[hi]at h;refine⟨_,i,rfl,h,λI=>.agg _ [.int .i64 0,.int .i64 0] rfl λj c v N K=>?_⟩;rcases j with _|_|j
  ·simp at N K;subst N;subst K;exact .int _ _
  ·simp at N K;subst N;subst K;exact .int _ _
  ·simp at N
end
end Go.Rse
namespace Go.Rse
open Go Go.RowKit
section
variable{P:Program}{C:Ctx}{st:St}{ty:TypeId}{Q:Exit->St->Prop}
variable{B:Blk}{E:TypeId}{a:Act}{ag:Bool}{g:Gh}{k:Nat}{kk:IntKind}{s:Nat}{t:TypeId}{w:World}{x y:Operand}{α:Type}{l:List α}
def Rel.same_row(hr:Rel C st g a w)(hk:lk st.h k=some B):Rel C (putH st k B) g a w:=by
 refine⟨hr.size,hr.defers,hr.tmps,⟨hr.sat.im,hr.sat.ob,λk' B' N=>?_⟩,hr.ext⟩;simp only[putH,ym]at N;cases K:k.beq k'<;>simp[K]at N
 ·exact hr.sat.blk k' B' N
 ·have:k=k':=ao K
  subst this;subst N;exact hr.sat.blk k _ hk
def zhH{α:Type}{enc:α->List AV}{l l2:List α}{g:Gh}{a:Act}{w:World}(hr:Rel C st g a w){t t2 E:TypeId}{s i m m' k c c':Nat}{A A':Option Addr}{news:List Value}{dst:Option Tmp}{x y:Operand}{pos:String}{af:Array Edge}{gd:Option (Nat×Bool)}{ag:Bool}
 (ex:a.eval x=.slice A m c)(hA:m≠0->∃b,yT (g.ρ k)=some b/\A=some ⟨b,i*s,none⟩)(hk:lk st.h k=some (.row enc l E s))(he:∀z,(enc z).length=s)(v4:0<s)(ht:slOk P t E=true)(hE:tyOk P E ag s=true)
 (ey:a.eval y=.slice A' m' c')(x0:l2.length=Nat.min m' m)(w2:l2≠[]->∃a0,A'=some a0/\∀j u,news[j]? =some u->w.cell? (a0.add j)=some u)(N:RVL g.I noNames (l2.flatMap enc) news)(v3:∀z∈l2,scL (enc z)=true)(k7:i+m<=l.length)
 (hd:dOk C.n dst=true)(K:Act->World->Prop)(hK:∀a',Rel C (putT (putH st k (.row enc (l.take i++l2++l.drop (i+l2.length)) E s)) dst (.int .i64 (l2.length:Int))) g a' w->K a' w)
 (v2:∀a' w',Rel C (putT (putH st k (.row enc (l.take i++l2++l.drop (i+l2.length)) E s)) dst (.int .i64 (l2.length:Int))) g a' w'->K a' w'):
 wp1 P {dst:=dst,op:=.call {callee:=.builtin .copy,args:= #[x,y],argTypes:= #[t,t2]},type:=ty,pos:=pos,after:=af,guard:=gd} a w K:=by
 have x1:∀{w':World}{B:Blk},Rel C (putH st k B) g a w'->Rel C (putT (putH st k B) dst (.int .i64 (l2.length:Int))) g (a.put dst (goInt l2.length)) w':=λh=>
  h.add (nk:=none) (d:=dst) (Add.refl _ g _) (λk h=>by simp at h) (λt ht=>by subst ht;simpa[dOk]using hd) (.int _ _) h.sat.im h.sat.ob
 by_cases x2:l2=[]
 ·have xT:Nat.min m' m=0:=by rw[←x0,x2];rfl
  have e0:(execOp a.eval {dst:=dst,op:=.call {callee:=.builtin .copy,args:= #[x,y],argTypes:= #[t,t2]},type:=ty,pos:=pos,after:=af,guard:=gd}).run P w=.ok (.value (goInt 0)) w:=by
   have hl:∀a0:Addr,(loadCells a0 0).run P w=.ok #[] w:=λa0=>by
    exact run_loadCells_list (P:=P) w a0 [] (λj v h=>by simp at h)
   cases A<;>cases A'<;>simp[execOp,resolve,invoke,builtin,Builtin.copy_,ex,ey,run_underlying (yS ht),Builtin.lenOf,Builtin.firstCells,yJ hE,xT,storeCells,hl,xM]
  unfold wp1;rw[e0];have h1:=hr.same_row hk;have e1:l.take i++l2++l.drop (i+l2.length)=l:=by rw[x2];simp
  have hz:(goInt 0)=goInt l2.length:=by rw[x2];rfl
  rw[hz];refine hK _ ?_;rw[e1];exact x1 h1
 ·have k8:0<l2.length:=uZ.2 x2;have xT:Nat.min m' m=l2.length:=x0.symm;have hm:m≠0:=λe=>by rw[e]at xT;have:Nat.min m' 0=0:=Nat.min_zero _;omega
  have k6:l2.length<=m:=by rw[←xT];exact Nat.min_le_right _ _
  obtain⟨b,hb,rfl⟩:=hA hm;obtain⟨a0,rfl,hc⟩:=w2 x2;have v1:news.length=l2.length*s:=by rw[N.1,zq l2 (λ_ x _=>he x)]
  have v9:∀u∈news,u.oneCell'=true:=λu hu=>by
   obtain⟨q,hq⟩:=jL.1 hu;have v8:q<(l2.flatMap enc).length:=by rw[←N.1];exact(j5.1 hq).1
   have hc:=jC v8;have v5:(l2.flatMap enc)[q]∈l2.flatMap enc:=wK v8;obtain⟨p,hp,v0⟩:=x4.1 v5;obtain⟨q',k9⟩:=jL.1 v0;exact(za9 (N.2 q _ u hc hq) (zdO (v3 p hp) k9)).2
  obtain⟨w',h1,h2⟩:=hr.row_write (P:=P) (i:=i) (l2:=l2) hk he v4 N v9 aa hb;have hl:=run_loadCells_list (P:=P) w a0 news hc;rw[v1]at hl
  have e0:(execOp a.eval {dst:=dst,op:=.call {callee:=.builtin .copy,args:= #[x,y],argTypes:= #[t,t2]},type:=ty,pos:=pos,after:=af,guard:=gd}).run P w=.ok (.value (goInt l2.length)) w':=by
   simp[execOp,resolve,invoke,builtin,Builtin.copy_,ex,ey,run_underlying (yS ht),Builtin.lenOf,Builtin.firstCells,yJ hE,xT,hl,h1]
  unfold wp1;rw[e0];exact v2 _ _ (x1 h2)
def zqu{α:Type}{enc:α->List AV}{l l2:List α}{t t2 E:TypeId}{s k:Nat}{dst:Option Tmp}{x y:Operand}{ag:Bool}(hx:ev st x=some (.own k))(hk:lk st.h k=some (.row enc l E s))(hy:ev st y=some (.sl enc l2))(he:∀z,(enc z).length=s)(x2:0<s)(v4:∀z,scL (enc z)=true)(ht:slOk P t E=true)(hE:tyOk P E ag s=true)(hd:dOk C.n dst=true):
 yu P C (.call {callee:=.builtin .copy,args:= #[x,y],argTypes:= #[t,t2]}) ty dst st (putT (putH st k (.row enc (l2.take l.length++l.drop (min l2.length l.length)) E s)) dst (.int .i64 (min l2.length l.length:Nat))):=λg a w pos af gd hr K hK=>by
 obtain⟨A,b,o,s',c,vs,e,hA,_,_,h1,h2,h3⟩:=zcF (yq hr hy);obtain⟨xs,hw,r1,r2,r3⟩:=hr.sat.blk k _ hk;have ek:=zn (yq hr hx)
 have v3:l2≠[]->s'=s:=λN=>by
  cases l2 with
  |nil=>exact absurd rfl N
  |cons p r=>exact(h1 0 p ah).symm.trans (he p)
 let l3:=l2.take l.length;have w2:∀(i:Nat)x,l3[i]? =some x->(enc x).length=s:=λi x _=>he x
 have v9:∀(i:Nat)x,l3[i]? =some x->l2[i]? =some x:=λi x h=>by
  simp only[l3,w4]at h;split at h
  ·exact h
  ·simp at h
 have x1:l3.length=min l2.length l.length:=by simp only[l3,jO];exact Nat.min_comm _ _
 let news:=(List.range (l3.length*s)).map λq=>vs (q/s) (q%s)
 have xT:∀j u,news[j]? =some u->j<l3.length*s/\u=vs (j/s) (j%s):=λj u hu=>by
  have hj:j<l3.length*s:=by
   have:=(j5.1 hu).1;simpa[news]using this
  simp[news,uY hj]at hu;exact⟨hj,hu.symm⟩
 have v8:∃A1 c1,a.eval x=.slice A1 l.length c1/\(l.length≠0->∃b,yT (g.ρ k)=some b/\A1=some ⟨b,0*s,none⟩):=by
  rcases hw.2 with⟨hv,h0⟩|⟨b',cap,cur,hv,_⟩
  ·exact⟨none,0,by rw[←ek,hv,h0],λh=>absurd h0 h⟩
  ·exact⟨_,cap,by rw[←ek,hv],λ_=>⟨b',by rw[hv];rfl,by rw[xM]⟩⟩
 obtain⟨A1,c1,ex,v2⟩:=v8;have v5:l.take 0++l3++l.drop (0+l3.length)=l2.take l.length++l.drop (min l2.length l.length):=by rw[x1];simp[l3]
 have key:=zhH (P:=P) (ty:=ty) (t2:=t2) (dst:=dst) (pos:=pos) (af:=af) (gd:=gd) (l2:=l3) hr (i:=0) ex v2 hk he x2 ht hE e (by rw[x1]) (news:=news) (λN=>⟨⟨b,o,none⟩,hA (λh=>N (by simp[l3,h])),λj u hu=>?_⟩) ⟨by simp[news,zq l3 w2],λj c v hc hv=>?_⟩ (λz _=>v4 z) aa hd K
 ·rw[v5,x1]at key;exact key (λa' h=>hK a' w g h) (λa' w' h=>hK a' w' g h)
 ·obtain⟨hj,rfl⟩:=xT j u hu;have hq:j/s<l3.length:=vE (by rw[u3];exact hj);have x0:j/s*s+j%s=j:=by rw[u3];exact vT j s
  have e2:=v3 (λh=>N (by simp[l3,h]));subst e2;have:=h2 (j/s') _ (j%s') (v9 _ _ (jC hq)) (xY _ x2);have h4:=(hr.sat.im _ _ _ this).1;rw[uB,x0]at h4;rw[zG];exact h4
 ·obtain⟨hj,rfl⟩:=xT j v hv;have hq:j/s<l3.length:=vE (by rw[u3];exact hj);have x0:j/s*s+j%s=j:=by rw[u3];exact vT j s
  have v1:j%s<s:=xY _ x2;have hp:=jC hq;refine h3 (j/s) _ (j%s) c (v9 _ _ hp) ?_;rw[←zdr l3 w2 (j/s) _ (j%s) hp v1,x0];exact hc
def zdv{α β:Type}{enc:α->List AV}{enc2:β->List AV}{l:List α}{l2:List β}(l3:List α){t t2 E E2:TypeId}{s k k2 i m j:Nat}{dst:Option Tmp}{x y:Operand}{ag:Bool}(hx:ev st x=some (.sub k s i m))(hk:lk st.h k=some (.row enc l E s))(hy:ev st y=some (.sub k2 s 0 j)\/(ev st y=some (.own k2)/\j=l2.length))(v2:lk st.h k2=some (.row enc2 l2 E2 s))
 (v8:l3.map enc=(l2.take (min j m)).map enc2)(he:∀z,(enc z).length=s)(v5:0<s)(v1:∀z∈l3,scL (enc z)=true)(v0:i+m<=l.length)(k3:j<=l2.length)
 (ht:slOk P t E=true)(hE:tyOk P E ag s=true)(hd:dOk C.n dst=true):
 yu P C (.call {callee:=.builtin .copy,args:= #[x,y],argTypes:= #[t,t2]}) ty dst st (putT (putH st k (.row enc (l.take i++l3++l.drop (i+min j m)) E s)) dst (.int .i64 (min j m:Nat))):=λg a w pos af gd hr K hK=>by
 have v4:=yq hr hx;obtain⟨xs,hw,r1,r2,r3⟩:=hr.sat.blk k2 _ v2
 have xT:∃A' c',a.eval y=.slice A' j c'/\(j≠0->∃b,yT (g.ρ k2)=some b/\A'=some ⟨b,0*s,none⟩):=by
  rcases hy with hy|⟨hy,rfl⟩
  ·have xT:=yq hr hy;generalize a.eval y=vy at xT⊢;cases xT with
   |sub _ _ _ _ c' A' x1=>exact⟨A',c',rfl,x1⟩
  ·have ek:=zn (yq hr hy);rcases hw.2 with⟨N,h0⟩|⟨b',cap,cur,N,_⟩
   ·exact⟨none,0,by rw[←ek,N,h0],λh=>absurd h0 h⟩
   ·exact⟨_,cap,by rw[←ek,N],λ_=>⟨b',by rw[N];rfl,by rw[xM]⟩⟩
 obtain⟨A',c',ey,x1⟩:=xT;generalize ex:a.eval x=vx at v4;cases v4 with
 |sub _ _ _ _ c A hA=>
 have x0:l3.length=min j m:=by
  have:=jA List.length v8;simp at this;omega
 have v3:xs.length=l2.length*s:=hw.1;have w2:=zcW r1 v3 r2 v5;let news:=xs.take (l3.length*s);have j4:l3.length*s<=l2.length*s:=jX s (by rw[x0];omega)
 have k9:l3.flatMap enc=(l2.flatMap enc2).take (l3.length*s):=by
  have e1:l3.flatMap enc=(l2.take (min j m)).flatMap enc2:=by rw[List.flatMap_def,v8,←List.flatMap_def]
  have x2:((l2.take (min j m)).flatMap enc2).length=l3.length*s:=by rw[←e1];exact zq l3 (λ_ x _=>he x)
  have:l2.flatMap enc2=(l2.take (min j m)).flatMap enc2++(l2.drop (min j m)).flatMap enc2:=by rw[←uG,wV]
  rw[e1,this,wM (kF x2.symm),wE (kF x2)]
 have v9:RVL g.I noNames (l3.flatMap enc) news:=by
  rw[k9];refine⟨by simp only[news,jO,v3,zq l2 r1],λq c v hc N=>?_⟩;simp only[news,w4]at hc N;split at hc
  ·rename_i h;rw[j7 h]at N;exact w2.2 q c v hc N
  ·simp at hc
 have key:=zhH (P:=P) (ty:=ty) (t2:=t2) (dst:=dst) (pos:=pos) (af:=af) (gd:=gd) (l2:=l3) hr (i:=i) ex hA hk he v5 ht hE ey (by rw[x0]) (news:=news) (λk8=>?_) v9 v1 v0 hd K
 ·rw[x0]at key;exact key (λa' h=>hK a' w g h) (λa' w' h=>hK a' w' g h)
 ·have k7:j≠0:=λe=>k8 (jT aa)
  obtain⟨b,hb,e1⟩:=x1 k7;refine⟨⟨b,0*s,none⟩,e1,λq u hu=>?_⟩
  have hq:q<l3.length*s:=by
   have:=(j5.1 hu).1;simp only[news,jO]at this;omega
  have k6:xs[q]? =some u:=by
   simp only[news,w4]at hu;rw[j7 hq]at hu;exact hu
  rcases hw.2 with⟨N,_⟩|⟨b',cap,cur,N,_,hh,j3,_,k4,k5⟩
  ·rw[N]at hb;simp[yT]at hb
  ·have:b'=b:=by rw[N]at hb;simpa[yT]using hb
   subst this;rw[zG,xM,u6];simp only[World.cell?,hh]
   have h0:cur.toList[q]? =some u:=by
    rw[←k6,←k5,w4,j7 aa]
   simpa using h0
def zni{α:Type}{enc:α->List AV}{l:List α}{t t2 E:TypeId}{s k i m j:Nat}{dst:Option Tmp}{x y:Operand}{ag:Bool}(hx:ev st x=some (.sub k s i m))(hk:lk st.h k=some (.row enc l E s))(hy:ev st y=some (.sub k s 0 j))(he:∀z,(enc z).length=s)(N:0<s)(K:∀z,scL (enc z)=true)(xT:i+m<=l.length)(x2:j<=l.length)
 (ht:slOk P t E=true)(hE:tyOk P E ag s=true)(hd:dOk C.n dst=true):
 yu P C (.call {callee:=.builtin .copy,args:= #[x,y],argTypes:= #[t,t2]}) ty dst st (putT (putH st k (.row enc (l.take i++l.take (min j m)++l.drop (i+min j m)) E s)) dst (.int .i64 (min j m:Nat))):=
 zdv _ hx hk (.inl hy) hk rfl he N (λz _=>K z) xT x2 ht hE hd
def zdT{enc:α->List AV}{i:Int}(hx:ev st x=some (.own k))(hk:lk st.h k=some (.row enc l E s))(hy:ev st y=some (.int kk i))(ht:slOk P t E=true)(hE:tyOk P E ag s=true)
 (h0:0<=i)(h1:i<=l.length):Pur P C (.slice t x none (some y) none) ty st (.sub k s 0 i.toNat):=λg a w dst pos af gd hr=>by
 obtain⟨xs,hw,_⟩:=hr.sat.blk k _ hk;have ek:=zn (yq hr hx);have ey:=yK (yq hr hy)
 have key:∀(A:Option Addr)(c:Nat),g.ρ k=.slice A l.length c->(l.length≠0->∃b,A=some ⟨b,0,none⟩)->l.length<=c→
  ∃v,(execOp a.eval {dst:=dst,op:=.slice t x none (some y) none,type:=ty,pos:=pos,after:=af,guard:=gd}).run P w=.ok (.value v) w/\RV g.I g.ρ (.sub k s 0 i.toNat) v:=λA c N hA hc=>by
  refine⟨.slice (if c=0 then A else A.map (·.add (0*s))) (i.toNat-0) (c-0),?_,.sub k s _ _ _ _ (λhm=>?_)⟩
  ·rw[N]at ek
   have:(Instr.sliceBounds true l.length c none (some (.int kk i)) none).run P w=.ok (0,i.toNat,c) w:=by
    have:i<=(c:Int):=aa
    simp[Instr.sliceBounds,Instr.sliceBound,asIntOf,h0,this]
   simp[execOp,Instr.sliceAt,Instr.slice,run_underlying (yS ht),←ek,ey,this,yJ hE]
  ·obtain⟨b,hb⟩:=hA aa;refine⟨b,by rw[N,hb];rfl,?_⟩;rw[hb];split<;>simp[zG]
 rcases hw.2 with⟨N,K⟩|⟨b,cap,cur,N,_,_,xT,_⟩
 ·exact key none 0 (by rw[N,K]) (λh=>absurd K h) aa
 ·exact key _ cap N (λ_=>⟨b,rfl⟩) xT
def zod{k:Nat}:∀{cs:List AV}{j:Nat}{c:AV},AV.fr.frL k cs=true->cs[j]? =some c->c.fr k=true
 |[],j,c,_,h=>by simp at h
 |x::r,0,c,hf,h=>by
  simp[AV.fr.frL]at hf;simp at h;subst h;exact hf.1
 |x::r,j+1,c,hf,h=>by
  simp[AV.fr.frL]at hf;exact zod hf.2 (ao h)
def mvF(k k':Nat):AV->AV
 |.own n=>bif n.beq k then .own k' else .own n
 |x=>cln k x
theorem Imp.mv{enc:α->List AV}{E:Nat}(k k':Nat)(hk:lk st.h k=some (.row enc l E s))(hf:st.fr k'=true):Imp C st {t:=mapT (mvF k k') st.t,h:=(k',.row enc l E s)::(k,.dead)::mapH (mvF k k') st.h}:=λg a w hr=>by
 obtain⟨xs,hw,h1,h2,h3⟩:=hr.sat.blk k _ hk;simp only[St.fr,jE]at hf;let ρ':Nat->Value:=λn=>if n=k' then g.ρ k else g.ρ n
 let O':Owns:=λb=>if yT (g.ρ k)=some b then some (C.d,k')else g.O b
 have hρ:∀n,some k'≠some n->ρ' n=g.ρ n:=λn hn=>by
  show(if n=k' then _ else _)=_;rw[j8 (λe=>hn (by rw[e]))]
 have x1:∀b,yT (g.ρ k)≠some b->O' b=g.O b:=λb N=>j8 N
 have v4:∀b,yT (g.ρ k)=some b->O' b=some (C.d,k'):=λb N=>j7 N
 have v8:∀x v,x.fr k'=true->RV g.I g.ρ x v->RV g.I ρ' (mvF k k' x) v:=λx v hx h=>by
  have v0:RV g.I ρ' (cln k x) v:=by
   unfold cln;cases hq:x.fr k with
   |false=>exact .any _
   |true=>exact h.renameOpt (nk:=some k') (λn hn=>by injection hn with hn;rw[←hn];exact hx) hρ
  cases x<;>try exact v0
  case own n=>
   simp only[mvF];cases N:n.beq k with
   |false=>exact h.renameOpt (nk:=some k') (λn hn=>by injection hn with hn;rw[←hn];exact hx) hρ
   |true=>
    have:n=k:=ao N
    subst this;have e:=zn h;cases h with
    |own _ A m c h=>exact .own k' A m c (by show(if k'=k' then _ else _)=_;rw[j7 rfl];exact h)
 have v5:ImOB ⟨ρ',g.I,O'⟩ w:=by
  refine⟨λb o u hI=>?_,λb n hO=>?_,hr.sat.ob.2⟩
  ·obtain⟨q1,q2⟩:=hr.sat.im b o u hI;refine⟨q1,?_⟩;by_cases N:yT (g.ρ k)=some b
   ·rw[(h3 b N).1]at q2;cases q2
   ·exact(x1 b N).trans q2
  ·by_cases N:yT (g.ρ k)=some b
   ·exact hr.sat.ob.1 b _ (h3 b N).1
   ·have:O' b=some n:=hO;rw[x1 b N]at this;exact hr.sat.ob.1 b n this
 have k9:Dfs C ⟨ρ',g.I,O'⟩ a.defers w:=by
  obtain⟨D,d1,dn,d2⟩:=hr.defers;refine⟨D,d1,dn,λr k8=>?_⟩;obtain⟨d3,d4,d5⟩:=d2 r k8;refine⟨d3,?_,d5⟩;show O' r=none;by_cases N:yT (g.ρ k)=some r
  ·rw[(h3 r N).1]at d4;cases d4
  ·exact(x1 r N).trans d4
 have w2:∀(b kk:Nat),kk≠k->g.O b=some (C.d,kk)->O' b=some (C.d,kk):=λb kk x0 hO=>by
  by_cases N:yT (g.ρ k)=some b
  ·rw[(h3 b N).1]at hO;injection hO with hO;injection hO with _ hO;exact absurd hO.symm x0
  ·exact(x1 b N).trans hO
 refine⟨⟨ρ',g.I,O'⟩,hr.size,k9,λt x hx=>?_,⟨v5.1,v5.2,λkk B hB=>?_⟩,?_⟩
 ·rw[zgE]at hx;cases hz:lk st.t t with
  |none=>simp[hz]at hx
  |some z=>simp[hz]at hx;subst hx;exact v8 z _ (zjl hf.1 hz) (hr.tmps t z hz)
 ·simp only[ym]at hB;cases v9:k'.beq kk with
  |true=>
   have e1:k'=kk:=ao v9
   subst e1;simp[v9]at hB;subst hB;have e2:ρ' k'=g.ρ k:=j7 rfl;refine⟨xs,(by show w.ownsRow 0 E s (ρ' k') _ xs;rw[e2];exact hw),h1,h2,λb N=>?_⟩
   replace N:yT (ρ' k')=some b:=N
   rw[e2]at N;exact⟨v4 b N,(h3 b N).2⟩
  |false=>
   simp only[v9,cond_false]at hB;cases xT:k.beq kk with
   |true=>simp[xT]at hB;subst hB;trivial
   |false=>
    simp only[xT,cond_false]at hB;have x0:kk≠k:=λe=>by subst e;simp at xT
    have v3:kk≠k':=λe=>by subst e;simp at v9
    have eρ:ρ' kk=g.ρ kk:=j8 v3;rw[zeT]at hB;cases hz:lk st.h kk with
    |none=>simp[hz]at hB
    |some B0=>
     simp[hz]at hB;subst hB;have h0:=hr.sat.blk kk B0 hz;have v2:=(zb9 hf.2 hz).1;cases B0 with
     |box cs E=>
      obtain⟨b2,vs,q1,q2,q3,q4,q5,q6⟩:=h0;refine⟨b2,vs,eρ.trans q1,w2 b2 kk x0 q2,q3,q4,by simpa using q5,λj c v hc hv=>?_⟩;rw[j9]at hc;cases x2:cs[j]? with
      |none=>simp[x2]at hc
      |some c0=>simp[x2]at hc;subst hc;exact v8 c0 v (zod v2 x2) (q6 j c0 v x2 hv)
     |row enc l E s=>
      obtain⟨ys,q1,q2,q3,q4⟩:=h0;refine⟨ys,(by show World.ownsRow _ _ _ _ (ρ' kk) _ _;rw[eρ];exact q1),q2,q3,λb2 xT=>?_⟩
      replace xT:yT (ρ' kk)=some b2:=xT
      rw[eρ]at xT;exact⟨w2 b2 kk x0 (q4 b2 xT).1,(q4 b2 xT).2⟩
     |hold vs cs=>
      refine⟨by simpa using h0.1,λj c v hc hv=>?_⟩;rw[j9]at hc;cases x2:cs[j]? with
      |none=>simp[x2]at hc
      |some c0=>simp[x2]at hc;subst hc;exact v8 c0 v (zod v2 x2) (h0.2 j c0 v x2 hv)
     |obj b2 o=>exact⟨h0.1,w2 b2 kk x0 h0.2.1,h0.2.2⟩
     |yld j on=>
      refine zgB (bo:=yT (g.ρ k)) h0 (Im.le_refl _) (λb' _ K=>x1 b' K) (λb' e=>.inl ⟨k,(h3 b' e).1⟩) ⟨rfl,rfl,rfl,jG _,λ_ _ _=>rfl⟩ (jG _) (λb' n hn=>?_) v5;by_cases K:yT (g.ρ k)=some b'
      ·exact h0.2.2.2.1 b' k (h3 b' K).1
      ·have:O' b'=some (C.d,n):=hn;rw[x1 b' K]at this;exact h0.2.2.2.1 b' n this
     |mpb kenc venc l=>
      obtain⟨b2,es,ck,q1,q2,q3,q4,q5,q6⟩:=h0;exact⟨b2,es,ck,eρ.trans q1,w2 b2 kk x0 q2,q3,q4,q5,q6⟩
     |dead=>trivial
 ·refine⟨hr.ext.I,hr.ext.os,hr.ext.tape,hr.ext.output,hr.ext.drawn,hr.ext.size,λb N hn ho=>?_,λb y n v1 hy=>?_⟩
  ·obtain⟨q1,q2⟩:=hr.ext.keep b N hn ho;refine⟨q1,?_⟩;by_cases K:yT (g.ρ k)=some b
   ·exact absurd (h3 b K).2 hn
   ·exact(x1 b K).trans q2
  ·by_cases K:yT (g.ρ k)=some b
   ·have:O' b=some (y,n):=hy;rw[v4 b K]at this;injection this with this;injection this with e1 e2;subst e1;exact hr.ext.own b C.d k v1 (h3 b K).1
   ·have:O' b=some (y,n):=hy;rw[x1 b K]at this;exact hr.ext.own b y n v1 this
end
end Go.Rse
namespace Go.Rse
open Go Go.RowKit
section
variable{P:Program}{C:Ctx}{st:St}{ty:TypeId}
variable{E t:TypeId}{x:Operand}{α:Type}{l:List α}{u:α}
def zQ{enc:α->List AV}{k s i:Nat}(hx:ev st x=some (.ptr k s i 0))(hk:lk st.h k=some (.row enc l E s))(hu:l[i]? =some u)(hl:(enc u).length=s)(hn:AV.nm.nmL (enc u)=true)
 (ht:tyOk P t true s=true):Pur P C (.load t x) ty st (.agg (enc u)):=λg a w dst pos af gd hr=>by
 obtain⟨b,hb,e⟩:=zad (yq hr hx);obtain⟨xs,hw,h1,h2,h3⟩:=hr.sat.blk k _ hk;rcases hw.2 with⟨K,_⟩|⟨b',cap,cur,K,_,hh,w2,_,x0,x2⟩
 ·rw[K]at hb;simp[yT]at hb
 ·have:b'=b:=by rw[K]at hb;simpa[yT]using hb
  subst this;have x1:i<l.length:=(j5.1 hu).1
  have v9:i*s+s<=l.length*s:=by
   have h2:(i+1)*s<=l.length*s:=jX s x1;have h3:(i+1)*s=i*s+s:=xL i s;omega
  have v8:xs.length=l.length*s:=hw.1;have N:((xs.drop (i*s)).take s).length=s:=by rw[jO,vC];omega
  have xT:∀j,j<s->((xs.drop (i*s)).take s)[j]? =xs[i*s+j]? :=λj hj=>by
   rw[u7 hj,wI]
  refine⟨.agg ((xs.drop (i*s)).take s).toArray,?_,.agg _ _ (by rw[N,hl]) (λj c v hc K=>?_)⟩
  ·have:=zU (P:=P) (t:=t) ht (b:=b') (o:=i*s) (w:=w) (vs:=(xs.drop (i*s)).take s) N (λj v K=>by
    have hj:j<s:=by rw[←N];exact(j5.1 K).1
    rw[xT j hj]at K;simp only[World.cell?,hh]
    have h0:cur.toList[i*s+j]? =some v:=by
     rw[←K];conv=>rhs;rw[←x2]
     rw[w4,j7 aa]
    simpa using h0)
   simp only[execOp,e,uX,jM,Instr.loadAt,Instr.sureAddr,jP,jH,this]
  ·have hj:j<s:=by rw[←hl];exact(j5.1 hc).1
   rw[xT j hj]at K;exact(h2 i u j c v hu hc K).forget (zw hn hc)
end
end Go.Rse
namespace Go.Rse
open Go Go.RowKit
variable{C:Ctx}{P:Program}{e:Exit}{hs':List (Nat×Blk)}{rv:List ResultVar}{st:St}{ty:TypeId}{vs:List Value}{x:Operand}{α:Type}
def zbK{t:TypeId}{f k s i j j2 off:Nat}(h:ev st x=some (.ptr k s i j))[ho:FoK P t f off](e:j+off=j2):Pur P C (.fieldAddr t x f) ty st (.ptr k s i j2):=e▸zdX h ho.h
def zhp{r:AV}{cs:List AV}{st':St}(hi:Imp C st st')(h:znf P C rv r vs cs hs' e st'):znf P C rv r vs cs hs' e st:=by
 obtain⟨h1,ts,ex,N,K⟩:=h;exact⟨h1,ts,ex,hi.trans N,K⟩
def zva{P:Program}{C:Ctx}{st:St}{dst:Option Tmp}{ty:TypeId}{fop:Operand}{args:Array Operand}{ts:Array TypeId}{f:FuncId}{caps xs ass:List AV}{hs hs':List (Nat×Blk)}{kp:List Nat}{r:AV}
 (μ:List (Nat×Nat))(h:FnO P f ass hs kp r hs')(hf:ev st fop=some (.fn f caps))(hx:evs st args.toList=some xs)(hμ:biOk μ=true)(x2:LeL (xs++caps) (ass.map (AV.ren μ)))(x1:ass.all (AV.okN (keys hs))=true)(x0:r.okN (keys hs')=true)
 (w2:zaq st μ (keys hs) hs)(N:∀p∈hs',(fwd μ p.1).isSome=true/\p.2.okNB (keys hs')=true)(xT:∀p∈μ,kp.any (·.beq p.1)=true\/(hs.any (·.1.beq p.1)=true/\hs'.any (·.1.beq p.1)=false)\/(hs.any (·.1.beq p.1)=false/\st.fr p.2=true))
 (v9:∀n∈kp,hs.any (·.1.beq n)=true)(hd:dOk C.n dst=true):
 yu P C (.call {callee:=.value fop,args:=args,argTypes:=ts}) ty dst st (za5 st μ hs hs' dst r):=λg a w pos af gd hr K hK=>by
 obtain⟨A,e2,h0⟩:=zhl (dst:=dst) (ty:=ty) (ts:=ts) μ h.r hf hx hμ x2 x1 x0 w2 N xT v9 hd hr;unfold wp1;rw[e2];refine Calls.mono h0 ?_
 rintro e w'⟨v,g',rfl,v8⟩
 exact⟨v,rfl,hK _ _ g' v8⟩
def zbV(enc:α->List AV)(E s b k i E0:Nat)(cs cs2:List AV)(ht:lk st.h b=some (.box cs E0))(hi:cs[i]? =some .nils)(K:cs.set i (.own k)=cs2)(hf:st.fr k=true):Imp C st {t:=st.t,h:=(b,.box cs2 E0)::(k,.row enc [] E s)::st.h}:=λg a w hr=>by
 subst K
 have xT:b≠k:=λe=>by
  subst e;simp[St.fr]at hf;exact(zb9 hf.2 ht).2 rfl
 have ha:Add (some k) g w {ρ:=λn=>if n=k then .slice none 0 0 else g.ρ n,I:=g.I,O:=g.O} w:=⟨Im.le_refl _,λn hn=>by
  have:n≠k:=λe=>hn (by rw[e])
  simp[this],λ_ _=>rfl,Grow.refl w⟩
 have h1:=hr.add (d:=none) (x:=.any) (v:=.nilIface) ha (λn hn=>by injection hn with hn;subst hn;exact hf) (λt h=>by simp at h) (.any _) hr.sat.im hr.sat.ob;have h2:=h1.withBlk (k:=k) (B:=.row enc [] E s) ⟨[],⟨ah,.inl ⟨ah,rfl⟩⟩,λi x h=>by simp at h,λi x j c v h=>by simp at h,λb hb=>by simp[yT]at hb⟩
 have x2:lk ((k,Blk.row enc [] E s)::st.h) b=some (.box cs E0):=by
  have:k.beq b=false:=beqF.2 λe=>xT e.symm
  simp[ym,this,ht]
 obtain⟨b1,vs,e1,e2,e3,e4,e5,e6⟩:=h2.sat.blk b _ x2;refine⟨_,h2.withBlk (k:=b) (B:=.box (cs.set i (.own k)) E0) ⟨b1,vs,e1,e2,e3,e4,by simpa using e5,λj c v N hv=>?_⟩⟩;rw[vF]at N;split at N
 ·rename_i x1;subst x1;split at N
  ·injection N with N;subst N;have:=zbG (e6 i .nils v hi hv);rw[this];exact .own k none 0 0 ah
  ·simp at N
 ·exact e6 j c v N hv
def zvb{P:Program}{C:Ctx}{st:St}{dst:Option Tmp}{ty:TypeId}{fop:Operand}{args:Array Operand}{ts:Array TypeId}{f:FuncId}{caps xs as':List AV}{hs hs':List (Nat×Blk)}{kp:List Nat}{r:AV}
 (μ:List (Nat×Nat))(h:FnO P f as' hs kp r hs')(hf:ev st fop=some (.fn f caps):=by exact rfl)(hx:evs st args.toList=some xs:=by exact rfl)(hμ:biOk μ=true:=by exact rfl)(xT:LeL (xs++caps) (as'.map (AV.ren μ)):=by exact LeL.refl _)(x2:as'.all (AV.okN (keys hs))=true:=by exact rfl)(x1:r.okN (keys hs')=true:=by exact rfl)
 (x0:zaq st μ (keys hs) hs:=by repeat'(first|exact True.intro|refine And.intro ⟨_,_,rfl,rfl,LeB.refl _,rfl⟩ ?_))(N:(hs'.all λp=>(fwd μ p.1).isSome&&p.2.okNB (keys hs'))=true:=by exact rfl)
 (K:(μ.all λp=>kp.any (·.beq p.1)||(hs.any (·.1.beq p.1)&&!(hs'.any (·.1.beq p.1)))||(!(hs.any (·.1.beq p.1))&&st.fr p.2))=true:=by exact rfl)
 (w2:(kp.all λn=>hs.any (·.1.beq n))=true:=by exact rfl)(hd:dOk C.n dst=true:=by exact rfl):
 yu P C (.call {callee:=.value fop,args:=args,argTypes:=ts}) ty dst st (za5 st μ hs hs' dst r):=by
 refine zva μ h hf hx hμ xT x2 x1 x0 (λp hp=>?_) (λp hp=>?_) (λn hn=>jF.1 w2 n hn) hd
 ·have:=jF.1 N p hp;simpa using this
 ·have:=jF.1 K p hp;simp only[wL,jE,wP]at this;rcases this with(h1|h1)|h1
  ·exact .inl h1
  ·exact .inr (.inl h1)
  ·exact .inr (.inr h1)
end Go.Rse
namespace Go.Rse
open Go Go.RowKit
variable{E:Nat}{P:Program}{c:Code}{f:FuncId}{fn:Func}{n:Nat}{rv:List ResultVar}{s:Nat}{v:Value}{α:Type}{l:List α}
def AV.flat:AV->Bool
 |.int _ _|.bool _|.str _|.nils|.nilf|.val _=>true
 |.agg cs=>flatL cs
 |.tup cs=>flatL cs
 |_=>false
where flatL:List AV->Bool
 |[]=>true
 |x::r=>x.flat&&flatL r
def za0:∀{cs:List AV},AV.flat.flatL cs=true->∀{j:Nat}{c:AV},cs[j]? =some c->c.flat=true
 |[],_,_,_,h=>by simp at h
 |x::r,h,0,c,e=>by
  simp[AV.flat.flatL]at h;simp at e;exact e▸h.1
 |x::r,h,j+1,c,e=>by
  simp[AV.flat.flatL]at h;exact za0 h.2 (ao e)
def RV.flat{I J:Im}{ρ ρ':Nat->Value}{x:AV}(h:RV I ρ x v)(hf:x.flat=true):RV J ρ' x v:=by
 induction h with
 |int k n=>exact .int k n
 |bool b=>exact .bool b
 |str s=>exact .str s
 |nils=>exact .nils
 |nilf=>exact .nilf
 |val v=>exact .val v
 |agg cs vs hl hv ih=>exact .agg cs vs hl (λj c v K N=>ih j c v K N (za0 (by simpa[AV.flat]using hf) K))
 |tup cs vs hl hv ih=>exact .tup cs vs hl (λj c v K N=>ih j c v K N (za0 (by simpa[AV.flat]using hf) K))
 |_=>simp[AV.flat]at hf
abbrev Hyp:=Im->Owns->World->Prop
def FnW(P:Program)(f:FuncId)(az:List AV)(r:AV)(H:Hyp):Prop:=
 zy P f=true/\r.nm=true/\∀(g:Gh)(w:World)(args:List Value),ImO g.I g.O w->H g.I g.O w->RVL g.I noNames az args→
  Calls P f args.toArray w λe w'=>∃v g',e=.returned v/\RV g'.I noNames r v/\Add none g w g' w'/\ImOB g' w'
def FnW.go{az:List AV}{r:AV}{H:Hyp}(hf:P.funcs[f]? =some fn)(hn:fn.ntmps=n)(h:∀g w d,H g.I g.O w->(∀b n,g.O b≠some (d,n))->X P (C0 n d g w) c ⟨zaE 0 az,[]⟩ (RetQ P (C0 n d g w) rv r))(hb:fn.body=some c:=by exact rfl)
 (x0:fn.results=rv.toArray:=by exact rfl)(hc:zy P f=true:=by kernel_rfl)(K:r.nm=true:=by exact rfl)(xT:az.length<=n:=by simp):FnW P f az r H:=by
 refine⟨hc,K,λg w args x2 hH N=>(callsIn_wide (n:=0)).1 (callsIn_of_wp_marks hf hb trivial ?_)⟩;obtain⟨d,hd,-⟩:=zcI g.O w.heap.size [] x2.2.1;have x1:=zeV (C:=C0 n d ⟨noNames,g.I,g.O⟩ w) (I:=g.I) (O:=g.O) (m:=fn.ntmps) rfl rfl hn xT x2 N;exact wpIn_mono (h ⟨noNames,g.I,g.O⟩ w d hH hd _ _ w x1) λe a w'⟨st,g1,w2,hq⟩=>zta.plain x0 K hq g1 a w' w2 hd
def FnOW(P:Program)(f:FuncId)(az:List AV)(enc:α->List AV)(l:List α)(E s:Nat)(H:Hyp):Prop:=
 zy P f=true/\∀(d:Nat)(ρ:Nat->Value)(I:Im)(O:Owns)(w:World)(args:List Value),(∀b n,O b≠some (d,n))->ImO I O w->H I O w->RVL I ρ az args→
  Calls P f args.toArray w λe w'=>∃v ρ' I' O',e=.returned v/\Sat (C0 0 d ⟨ρ,I,O⟩ w) [(5,.row enc l E s)] ⟨ρ',I',O'⟩ w'/\RV I' ρ' (.own 5) v/\Ext (C0 0 d ⟨ρ,I,O⟩ w) ⟨ρ',I',O'⟩ w'
def FnO.ow{az:List AV}{enc:α->List AV}(h:FnO P f az [] [] (.own 5) [(5,.row enc l E s)]):FnOW P f az enc l E s λ_ _ _=>True:=
 ⟨h.1,λd ρ I O w args _ K _ N=>Calls.mono (h.2 d ρ I O w args ⟨K.1,K.2,λk B hB=>by simp[lk]at hB⟩ N) λe w'⟨v,ρ',I',O',h1,h2,h3,h4,_⟩=>⟨v,ρ',I',O',h1,h2,h3,h4⟩⟩
def FnOW.go{az:List AV}{enc:α->List AV}{H:Hyp}(hf:P.funcs[f]? =some fn)(hn:fn.ntmps=n)
 (h:∀g w d,H g.I g.O w->(∀b n,g.O b≠some (d,n))->X P (C0 n d g w) c ⟨zaE 0 az,[]⟩ (λe st=>(e=.normal\/e=.ret)/\∃ts ex,Imp (C0 n d g w) st ⟨ts,(5,.row enc l E s)::ex⟩/\RetVs P ⟨ts,(5,.row enc l E s)::ex⟩ rv (.own 5)))(hb:fn.body=some c:=by exact rfl)
 (v5:fn.results=rv.toArray:=by exact rfl)(hc:zy P f=true:=by kernel_rfl)(k9:az.length<=n:=by simp):FnOW P f az enc l E s H:=by
 refine⟨hc,λd ρ I O w args v4 x1 hH K=>(callsIn_wide (n:=0)).1 (callsIn_of_wp_marks hf hb trivial ?_)⟩;have v3:args.length=az.length:=K.1;let C:=C0 n d ⟨ρ,I,O⟩ w
 have x0:Rel C ⟨zaE 0 az,[]⟩ ⟨ρ,I,O⟩ {tmps:=args.toArray++Array.replicate (fn.ntmps-args.toArray.size) undef,defers:=[]} w:=by
  refine⟨by simp[hn,C];omega,Dfs.nil _ _ _,λt x hx=>?_,⟨x1.1,x1.2,λk B hB=>by simp[lk]at hB⟩,⟨Im.le_refl _,rfl,rfl,rfl,jG _,jG _,λ_ _ _ _=>⟨rfl,rfl⟩,λb y n _ hy=>⟨n,hy⟩⟩⟩;obtain⟨_,x2⟩:=zdt (I:=I) (ρ:=ρ) az 0 t x hx;simp only[vY]at x2;have ht:t<args.length:=by rw[v3];exact(j5.1 x2).1
  have e:(args.toArray++Array.replicate (fn.ntmps-args.toArray.size) undef).getD t undef=args[t]:=by
   simp[jI,vN,ht]
  rw[e];exact K.2 t x _ x2 (jC ht)
 refine wpIn_mono (h ⟨ρ,I,O⟩ w d hH v4 _ _ w x0) ?_
 rintro e a w'⟨st,g1,v2,he,ts',ex',w2,v9⟩
 obtain⟨g2,xT⟩:=w2 g1 a w' v2
 have v8:LeavesInM Fence.wide 0 P fn a.tmps (λe w'=>∃v ρ' I' O',e=.returned v/\Sat (C0 0 d ⟨ρ,I,O⟩ w) [(5,.row enc l E s)] ⟨ρ',I',O'⟩ w'/\RV I' ρ' (.own 5) v/\Ext (C0 0 d ⟨ρ,I,O⟩ w) ⟨ρ',I',O'⟩ w') a.defers .returning w':=by
  obtain⟨D,hD,v1,v0⟩:=xT.defers;refine zbq (C:=C) v5 v9 rfl (λg3 w3 v N hv=>?_) D hD.plain v1 v0 ⟨xT.size,Dfs.nil _ _ _,xT.tmps,xT.sat,xT.ext⟩;refine⟨v,g3.ρ,g3.I,g3.O,rfl,⟨N.sat.im,N.sat.ob,λk B hB=>?_⟩,hv,⟨N.ext.I,N.ext.os,N.ext.tape,N.ext.output,N.ext.drawn,N.ext.size,N.ext.keep,N.ext.own⟩⟩;refine(N.sat.blk k B ?_).ctx;simp only[ym]at hB⊢;cases hb:Nat.beq 5 k
  ·simp[hb,lk]at hB
  ·simpa[hb]using hB
 rcases he with rfl|rfl<;>exact v8
section
variable{P:Program}{C:Ctx}{st:St}{ty:TypeId}
variable{E:TypeId}{I:Im}{O:Owns}{a:Act}{b:Nat}{f:FuncId}{g:Gh}{i j k s:Nat}{t:TypeId}{w:World}{x:Operand}{α κ:Type}{L:List (κ×α)}{l:List α}{u:α}
def zAi{ι:Type}{fop:Operand}{args:Array Operand}{ts:Array TypeId}{f:FuncId}{caps xs az:ι->List AV}{r:AV}{H:ι->Hyp}{stF:ι->St}(hl:∀g a w,Rel C st g a w->∃i gF,Rel C (stF i) gF a w/\H i gF.I gF.O w)(h:∀i,FnW P f (az i) r (H i))
 (hf:∀i,ev (stF i) fop=some (.fn f (caps i)):=by intro i;rfl)(hx:∀i,evs (stF i) args.toList=some (xs i):=by intro i;rfl)(hn:∀i,AV.nm.nmL (xs i++caps i)=true:=by intro i;rfl)(w2:∀i,LeL (xs i++caps i) (az i):=by intro i;exact LeL.refl _)(hr:r.flat=true:=by rfl):
 yy P C (.call {callee:=.value fop,args:=args,argTypes:=ts}) ty st r none:=λg a w dst pos af gd N K hK=>by
 obtain⟨i,gF,xT,hH⟩:=hl g a w N;obtain⟨us,e,v9,hu⟩:=zcE (yq xT (hf i));have x2:=zdP xT (hx i);have x0:RVL gF.I noNames (az i) (args.toList.map a.eval++us):=(w2 i).rvl ((x2.append ⟨v9,hu⟩).forget (hn i));have h0:=(h i).2.2 gF w _ ⟨xT.sat.im,xT.sat.ob⟩ hH x0;have e1:(args.toList.map a.eval++us).toArray=args.map a.eval++us.toArray:=by simp[←Array.toList_map]
 rw[e1]at h0
 have e2:(execOp a.eval {dst:=dst,op:=.call {callee:=.value fop,args:=args,argTypes:=ts},type:=ty,pos:=pos,after:=af,guard:=gd}).run P w=.ok (.enter f (args.map a.eval++us.toArray)) w:=by
  simp only[execOp,resolve,e,Deferred.ofValue,jM,jP,jH,invoke,zN (h i).1];simp
 unfold wp1;rw[e2];refine Calls.mono h0 ?_
 rintro e w'⟨v,g',rfl,h1,h2,h3⟩
 refine⟨v,rfl,?_⟩;have x1:=h2.grow;refine hK v w' g ⟨Im.le_refl _,λ_ _=>rfl,λ_ _=>rfl,x1⟩ (h1.flat hr) ⟨λb o u hI=>⟨x1.cell (N.sat.im b o u hI).1,(N.sat.im b o u hI).2⟩,N.sat.ob.up (Im.le_refl _) x1.size⟩ (λ_ _ h=>by cases h)
def zgQ{ι:Type}{fop:Operand}{args:Array Operand}{ts:Array TypeId}{f:FuncId}{caps xs az:ι->List AV}{α:Type}{enc:α->List AV}{l:List α}{E s:Nat}{H:ι->Hyp}{stF:ι->St}(k:Nat)(hl:∀g a w,Rel C st g a w->∃i gF,Rel C (stF i) gF a w/\H i gF.I gF.O w)(h:∀i,FnOW P f (az i) enc l E s (H i))
 (v1:∀x,AV.flat.flatL (enc x)=true:=by intro x;rfl)(hf:∀i,ev (stF i) fop=some (.fn f (caps i)):=by intro i;rfl)(hx:∀i,evs (stF i) args.toList=some (xs i):=by intro i;rfl)(v0:∀i,LeL (xs i++caps i) (az i):=by intro i;exact LeL.refl _):
 yy P C (.call {callee:=.value fop,args:=args,argTypes:=ts}) ty st (.own k) (some (k,.row enc l E s)):=λg a w dst pos af gd x2 K hK=>by
 obtain⟨i,gF,xT,hH⟩:=hl g a w x2;obtain⟨us,e,k9,hu⟩:=zcE (yq xT (hf i));have x1:=zdP xT (hx i);have v8:RVL gF.I gF.ρ (az i) (args.toList.map a.eval++us):=(v0 i).rvl (x1.append ⟨k9,hu⟩);obtain⟨dc,x0,_⟩:=zcI gF.O w.heap.size [] xT.sat.ob.1;have h0:=(h i).2 dc gF.ρ gF.I gF.O w _ x0 ⟨xT.sat.im,xT.sat.ob⟩ hH v8;have e1:(args.toList.map a.eval++us).toArray=args.map a.eval++us.toArray:=by simp[←Array.toList_map]
 rw[e1]at h0
 have e2:(execOp a.eval {dst:=dst,op:=.call {callee:=.value fop,args:=args,argTypes:=ts},type:=ty,pos:=pos,after:=af,guard:=gd}).run P w=.ok (.enter f (args.map a.eval++us.toArray)) w:=by
  simp only[execOp,resolve,e,Deferred.ofValue,jM,jP,jH,invoke,zN (h i).1];simp
 unfold wp1;rw[e2];refine Calls.mono h0 ?_
 rintro e w'⟨v,ρ',I',O',rfl,hs,hv,N⟩
 refine⟨v,rfl,?_⟩
 have w2:Grow w w':=⟨N.os,N.tape,N.output,N.drawn,N.size,λb hb=>(N.keep b hb (λhk=>by
  rcases hk with hk|⟨n,hk⟩
  ·exact absurd hk (kH.2 hb)
  ·exact x0 b n hk) (λ⟨y,n,hy,_⟩=>by simp at hy)).1⟩
 let g3:Gh:={ρ:=λn=>if n=k then v else g.ρ n,I:=g.I,O:=λb=>if b<w.heap.size then g.O b else(match O' b with|some (y,n)=>if y=dc/\n=5 then some (C.d,k)else none|none=>none)};have v5:∀b,b<w.heap.size->g3.O b=g.O b:=λb hb=>by simp[g3,hb]
 have v9:ρ' 5=v:=zn hv;obtain⟨xs',p1,p2,p3,p4⟩:=hs.blk 5 (.row enc l E s) (by simp[ym])
 have v4:∀b,yT (ρ' 5)=some b->O' b=some (dc,5)/\w.heap.size<=b:=λb hb=>by
  obtain⟨q1,q2⟩:=p4 b hb;refine⟨q1,?_⟩;rcases q2 with q2|⟨n,q2⟩
  ·exact q2
  ·exact absurd q2 (x0 b n)
 have k8:ImOB g3 w':=by
  refine⟨λb o u hI=>?_,λb p hO=>?_,x2.sat.ob.2⟩
  ·obtain⟨q1,q2⟩:=x2.sat.im b o u hI;exact⟨w2.cell q1,by rw[v5 b (zch q1)];exact q2⟩
  ·rcases wH b w.heap.size with hb|hb
   ·exact w7 hb w2.size
   ·simp only[g3,Nat.not_lt.2 hb,if_false]at hO;cases v3:O' b with
    |none=>simp[v3]at hO
    |some q=>exact hs.ob.1 b q v3
 refine hK v w' g3 ⟨Im.le_refl _,λn hn=>?_,v5,w2⟩ ?_ k8 (λk' B hB=>?_)
 ·have:n≠k:=λe=>hn (by simp[e])
  simp[g3,this]
 ·have k7:=zn hv;rcases p1.2 with⟨e,_⟩|⟨b,cap,cur,e,_⟩<;>
  ·have e:ρ' 5=_:=e;rw[v9]at e;rw[e];exact .own k _ _ _ (by simp[g3,e])
 ·injection hB with hB;injection hB with e3 e4;subst e3;subst e4;have v2:g3.ρ k=v:=by simp[g3]
  refine⟨xs',by rw[v2,←v9];exact p1,p2,λj x q c u hx hc hu=>(p3 j x q c u hx hc hu).flat (za0 (v1 x) hc),λb hb=>?_⟩;rw[v2,←v9]at hb;obtain⟨q1,q2⟩:=v4 b hb;refine⟨by simp[g3,Nat.not_lt.2 q2,q1],.inl (jV x2.ext.size q2)⟩
def zB{enc:α->List AV}{n:Nat}{ys:List AV}(hx:ev st x=some (.ptr k s i j))(hk:lk st.h k=some (.row enc l E s))(hu:l[i]? =some u)(hy:((enc u).drop j).take n=ys)(hl:ys.length=n)(hj:j+n<=s)(hn:AV.nm.nmL ys=true)
 (ht:tyOk P t true n=true):Pur P C (.load t x) ty st (.agg ys):=λg a w dst pos af gd hr=>by
 obtain⟨b,hb,e⟩:=zad (yq hr hx);obtain⟨xs,hw,h1,h2,h3⟩:=hr.sat.blk k _ hk;rcases hw.2 with⟨K,_⟩|⟨b',cap,cur,K,_,hh,v9,_,w2,x2⟩
 ·rw[K]at hb;simp[yT]at hb
 ·have:b'=b:=by rw[K]at hb;simpa[yT]using hb
  subst this;have x1:i<l.length:=(j5.1 hu).1
  have v8:i*s+s<=l.length*s:=by
   have h2:(i+1)*s<=l.length*s:=jX s x1;have h3:(i+1)*s=i*s+s:=xL i s;omega
  have v5:xs.length=l.length*s:=hw.1;have N:((xs.drop (i*s+j)).take n).length=n:=by rw[jO,vC];omega
  have xT:∀q,q<n->((xs.drop (i*s+j)).take n)[q]? =xs[i*s+(j+q)]? :=λq hq=>by
   rw[u7 hq,wI,uB]
  refine⟨.agg ((xs.drop (i*s+j)).take n).toArray,?_,.agg _ _ (by rw[N,hl]) (λq c v hc K=>?_)⟩
  ·have:=zU (P:=P) (t:=t) ht (b:=b') (o:=i*s+j) (w:=w) (vs:=(xs.drop (i*s+j)).take n) N (λq v K=>by
    have hq:q<n:=by rw[←N];exact(j5.1 K).1
    rw[xT q hq]at K;simp only[World.cell?,hh]
    have h0:cur.toList[i*s+j+q]? =some v:=by
     rw[←K];conv=>rhs;rw[←x2]
     rw[w4,j7 aa,uB]
    simpa using h0)
   simp only[execOp,e,jM,Instr.loadAt,Instr.sureAddr,jP,jH,this]
  ·have hq:q<n:=by rw[←hl];exact(j5.1 hc).1
   rw[xT q hq]at K
   have x0:(enc u)[j+q]? =some c:=by
    rw[←hy,u7 hq,wI]at hc;exact hc
   exact(h2 i u (j+q) c v hu x0 K).forget (zw hn hc)
def zkM(hx:ev st x=some (.ptr k s i j)):Pur P C (.makeFunc (.func f) #[x] #[]) ty st (.mth f k s i j):=λg a w dst pos af gd hr=>by
 obtain⟨b,N,e⟩:=zad (yq hr hx);exact⟨.func (.func f) #[.pointer (some ⟨b,i*s+j,none⟩)] #[],by simp[execOp,Instr.makeFunc,e],.mth f k s i j b N⟩
def zxT{dst:Option Tmp}{fop:Operand}{args:Array Operand}{ts:Array TypeId}{f:FuncId}{k s i j:Nat}{xs az:List AV}{hs hs':List (Nat×Blk)}{kp:List Nat}{r:AV}
 (μ:List (Nat×Nat))(h:FnO P f az hs kp r hs')(hf:ev st fop=some (.mth f k s i j):=by exact rfl)(hx:evs st args.toList=some xs:=by exact rfl)(hμ:biOk μ=true:=by exact rfl)(x0:LeL (.ptr k s i j::xs) (az.map (AV.ren μ)):=by exact LeL.refl _)(w2:az.all (AV.okN (keys hs))=true:=by exact rfl)(v9:r.okN (keys hs')=true:=by exact rfl)
 (v8:zaq st μ (keys hs) hs:=by repeat'(first|exact True.intro|refine And.intro ⟨_,_,rfl,rfl,LeB.refl _,rfl⟩ ?_))(xT:(hs'.all λp=>(fwd μ p.1).isSome&&p.2.okNB (keys hs'))=true:=by exact rfl)
 (x2:(μ.all λp=>kp.any (·.beq p.1)||(hs.any (·.1.beq p.1)&&!(hs'.any (·.1.beq p.1)))||(!(hs.any (·.1.beq p.1))&&st.fr p.2))=true:=by exact rfl)
 (v5:(kp.all λn=>hs.any (·.1.beq n))=true:=by exact rfl)(hd:dOk C.n dst=true:=by exact rfl):
 yu P C (.call {callee:=.value fop,args:=args,argTypes:=ts}) ty dst st (za5 st μ hs hs' dst r):=λg a w pos af gd hr K hK=>by
 obtain⟨b,hb,e⟩:=zu0 (yq hr hf);have N:=zdP hr hx
 have h1:RVL g.I g.ρ [.ptr k s i j] [.pointer (some ⟨b,i*s+j,none⟩)]:=⟨rfl,λq c v hc hv=>by
  match q with
  |0=>simp at hc hv;subst hc;subst hv;exact .ptr k s i j b hb
  |q+1=>simp at hc⟩
 have x1:RVL g.I g.ρ (az.map (AV.ren μ)) ([.pointer (some ⟨b,i*s+j,none⟩)]++args.toList.map a.eval):=x0.rvl (h1.append N)
 have h0:=zn9 (T:=Calls P f) (dst:=dst) (λh hm=>Calls.mono h hm) μ h.r.2 hμ w2 v9 v8 (λp hp=>by have:=jF.1 xT p hp;simpa using this) (λp hp=>by
  have:=jF.1 x2 p hp;simp only[wL,jE,wP]at this;rcases this with(h1|h1)|h1
  ·exact .inl h1
  ·exact .inr (.inl h1)
  ·exact .inr (.inr h1)) (λn hn=>jF.1 v5 n hn) hd hr x1
 have e2:(execOp a.eval {dst:=dst,op:=.call {callee:=.value fop,args:=args,argTypes:=ts},type:=ty,pos:=pos,after:=af,guard:=gd}).run P w=.ok (.enter f (([.pointer (some ⟨b,i*s+j,none⟩)]:List Value)++args.toList.map a.eval).toArray) w:=by
  simp only[execOp,resolve,e,Deferred.ofValue,jM,jP,jH,invoke,zN h.1];simp[←Array.toList_map]
 unfold wp1;rw[e2];refine Calls.mono h0 ?_
 rintro e w'⟨v,g',rfl,v4⟩
 exact⟨v,rfl,hK _ _ g' v4⟩
def zjI(b:Nat)(kenc:κ->AV)(venc:α->AV)(L:List (κ×α)):Hyp:=λ_ _ w=>
 b<w.heap.size/\∃es ck,w.heap[b]? =some (.map es ck)/\es.size=L.length/\∀(i:Nat)e p,es[i]? =some e->L[i]? =some p->RV (λ_ _=>none) noNames (kenc p.1) e.key/\RV (λ_ _=>none) noNames (venc p.2) e.val
def zjI.now{kenc:κ->AV}{venc:α->AV}(h:zjI b kenc venc L I O C.w0)(N:C.ds=[])(K:∀b n,C.g0.O b≠some (C.d,n))(hr:Rel C st g a w):zjI b kenc venc L g.I g.O w:=by
 obtain⟨h1,es,ck,h3,h4,h5⟩:=h
 obtain⟨e1,e2⟩:=hr.ext.keep b h1 (λhk=>by
  rcases hk with hk|⟨n,hk⟩
  ·exact absurd hk (kH.2 h1)
  ·exact K b n hk) (λ⟨y,n,hy,_⟩=>by rw[N]at hy;simp at hy)
 exact⟨w7 h1 hr.ext.size,es,ck,e1.trans h3,h4,h5⟩
def zqv{α:Type}{venc:α->AV}{l:List (Int×α)}{t K E:TypeId}{x y:Operand}{b:Nat}{q:Int}(z0:α){I:Im}{O:Owns}(hm:zjI b (λi:Int=>.int .i64 i) venc l I O C.w0)(x2:∀b n,C.g0.O b≠some (C.d,n))(ht:mpOk P t K E)(hd:∃d,P.underlying K=some (.int d)/\d=.i64)(hz:∃z i,P.info? E=some i/\i.zero=some z/\∀I,RV I noNames (venc z0) z)
 (hf:∀v,(venc v).flat=true:=by intro v;rfl)(x1:C.ds=[]:=by rfl)(hx:ev st x=some (.val (.map (some b))):=by exact rfl)(hy:ev st y=some (.int .i64 q):=by exact rfl):
 Pur P C (.lookup t x y false) ty st (venc ((mget q l).getD z0)):=λg a w dst pos af gd hr=>by
 obtain⟨_,es,ck,h4,h5,h6⟩:=hm.now x1 x2 hr;have ex:=zac (yq hr hx);have ey:=yK (yq hr hy);obtain⟨d,N,rfl⟩:=hd;obtain⟨z,i,hi,x0,w2⟩:=hz;have xT:∀(j:Nat)e p,es.toList[j]? =some e->l[j]? =some p->e.key=.int .i64 p.1:=λj e p he hp=>yK (h6 j e p (ao he) hp).1
 rcases zeF (q:=q) (d:=.i64) l es.toList 0 (ao h5) xT with⟨m1,m2⟩|⟨j,e,v,m1,m2,m3,m4⟩
 ·refine⟨z,?_,?_⟩
  ·simp[execOp,ex,ey,Instr.lookup,run_underlying ht.1,MapKept.run_getObj_map h4,MapKept.run_checkKey N (show MapKept.IsKey (.int .i64) (.int .i64 q)from rfl),MapKept.run_findKey N m2,Result.andThen,zeroValue,typeInfo,hi,x0]
  ·have e1:(mget q l).getD z0=z0:=by simp[mget,m1]
   rw[e1];exact(w2 g.I).flat (hf _)
 ·simp only[u6]at m1 m2;refine⟨e.val,?_,?_⟩
  ·simp[execOp,ex,ey,Instr.lookup,run_underlying ht.1,MapKept.run_getObj_map h4,MapKept.run_checkKey N (show MapKept.IsKey (.int .i64) (.int .i64 q)from rfl),MapKept.run_findKey N m2,Result.andThen]
  ·have e1:(mget q l).getD z0=v:=by simp[mget,m1]
   rw[e1];exact(h6 j e (q,v) (ao m3) m4).2.flat (hf _)
def frzM(k b:Nat):AV->AV
 |.mp k'=>bif k'.beq k then .val (.map (some b))else .mp k'
 |x=>cln k x
def zpU{kenc:κ->AV}{venc:α->AV}{stF:Nat->St}(hk:lk st.h k=some (.mpb kenc venc L))(hi:∀b,Imp C ⟨mapT (frzM k b) st.t,(k,.dead)::mapH (frzM k b) st.h⟩ (stF b))(N:∀x,(kenc x).flat=true)(K:∀x,(venc x).flat=true)(hr:Rel C st g a w):
 ∃b gF,Rel C (stF b) gF a w/\zjI b kenc venc L gF.I gF.O w:=by
 obtain⟨b,es,ck,h1,h2,h3,h4,h5,h6⟩:=hr.sat.blk k _ hk
 have hJ:(λb' o=>if b'=b then(none:Option Value)else g.I b' o)=g.I:=by
  funext b' o;split
  ·rename_i e;cases hI:g.I b' o with
   |none=>rfl
   |some u=>have:=(hr.sat.im b' o u hI).2;rw[e,h2]at this;cases this
  ·rfl
 have xT:=hr.letgo (b:=b) (J:=λ_=>none) (frzM k b) ⟨h2,h3⟩ (λo v hv=>by cases hv) λx v hx=>by
  rw[hJ];cases x with
  |mp k'=>
   obtain⟨b',e1,e2⟩:=zdc hx;show RV g.I g.ρ (bif k'.beq k then .val (.map (some b))else .mp k') v;cases hb:k'.beq k
   ·exact hx
   ·have:k'=k:=ao hb
    subst this;rw[h1]at e2;injection e2 with e2;injection e2 with e2;subst e2;rw[e1];exact .val _
  |_=>exact hx.cln (λ_ _=>rfl)
 obtain⟨gF,x2⟩:=hi b _ _ _ xT;exact⟨b,gF,x2,zb h4,es,ck,h4,h5.1,λi e p he hp=>⟨(h6 i e p he hp).1.flat (N _),(h6 i e p he hp).2.flat (K _)⟩⟩
def zDF{stF:St}(hi:Imp C st stF)(hr:Rel C st g a w):∃(_:Unit)(gF:Gh),Rel C stF gF a w/\(λ(_:Im)(_:Owns)(_:World)=>True) gF.I gF.O w:=
 let⟨g',h⟩:=hi g a w hr;⟨(),g',h,trivial⟩
def zDG{H:Hyp}(N:∀g a w,Rel C st g a w->H g.I g.O w)(hr:Rel C st g a w):∃(_:Unit)(gF:Gh),Rel C st gF a w/\H gF.I gF.O w:=⟨(),g,hr,N g a w hr⟩
end
section
variable{P:Program}{C:Ctx}{st:St}{ty:TypeId}{Q:Exit->St->Prop}{ops:Array Oper}{i:Nat}{fs:List FactM}{o:Oper}{x:AV}{nb:Option (Nat×Blk)}
def ChM.lg{ms:List Nat}{hid:List Nat}{m:Nat}{d gi t:Nat}{want b:Bool}{g0:List (Nat×Bool)}{f:FuncId}{caps xs:List AV}{fop:Operand}{args:Array Operand}{ts:Array TypeId}{H:Hyp}(hH:∀st g a w,Rel C st g a w->H g.I g.O w)(hc:FnW P f (xs++caps) x H)(h:ChM P C ops ms st hid Q (i+1) (⟨i,some d,x,none,m,(gi,want)::g0⟩::fs))(hm:ms[i]? =some m:=by exact rfl)(ho:ops[i]? =some o:=by exact rfl)(hg:o.guard=some (gi,want):=by exact rfl)(N:o.dst=some d:=by exact rfl)(hi:(ops[gi]?).bind (·.dst)=some t:=by exact rfl)
 (x0:zc0 fs gi=g0:=by first|exact(rfl:_=[])|exact(rfl:_=[_])|exact(rfl:_=[_,_])|exact(rfl:_=[_,_,_]))(hb:lk (stR st hid m fs).t t=some (optV (zi fs g0) g0 (.bool b)):=by exact rfl)(K:za6 fs gi want=(b==want):=by exact rfl)(xT:zdb fs ((gi,want)::g0)=true:=by exact rfl)
 (x2:o.op=.call {callee:=.value fop,args:=args,argTypes:=ts}:=by exact rfl)(hf:ev (stV st hid m fs ((gi,want)::g0)) fop=some (.fn f caps):=by exact rfl)(hx:evs (stV st hid m fs ((gi,want)::g0)) args.toList=some xs:=by exact rfl)(hn:AV.nm.nmL (xs++caps)=true:=by exact rfl)(x1:x.flat=true:=by exact rfl)(hd:d.blt C.n=true:=by exact rfl):ChM P C ops ms st hid Q i fs:=
 .guard hm ho hg hi hb rfl K (zbt xT) (λe=>by rw[x2];exact zAi (ι:=Unit) (H:=λ_=>H) (stF:=λ_=>stV st hid m fs ((gi,want)::g0)) (λg a w hr=>zDG (hH _) hr) (caps:=λ_=>caps) (xs:=λ_=>xs) (λ_=>hc) (λ_=>hf) (λ_=>hx) (λ_=>hn) (λ_=>LeL.refl _) x1) (by rw[N];exact hd) (by rw[N];exact h)
end
end Go.Rse
namespace Go.Rse
open Go Go.RowKit
open Go.ChangeMaps (setBlock)
def chk2{P:Program}{K:TypeId}{f1 f2:Field}{a b:Int}(em:Bool)(w:World)(N:P.underlying K=some (.struct #[f1,f2]))(h1:f1.name≠ "_")(h2:f2.name≠ "_")(p1:P.plainKey f1.type=true)(p2:P.plainKey f2.type=true)
 (o1:f1.offset=0)(o2:f2.offset=1)(u1:P.underlying f1.type=some (.int .i64))(u2:P.underlying f2.type=some (.int .i64)):
 (Instr.checkKey em 10000 K (.agg #[.int .i64 a,.int .i64 b])).run P w=.ok () w:=by
 show(Instr.checkKey em (9998+1+1) K _).run P w=_;have k1:(Instr.checkKey em (9998+1) f1.type (.int .i64 a)).run P w=.ok () w:=MapKept.run_checkKey u1 (show MapKept.IsKey (.int .i64) (.int .i64 a)from rfl) em 9998;have k2:(Instr.checkKey em (9998+1) f2.type (.int .i64 b)).run P w=.ok () w:=MapKept.run_checkKey u2 (show MapKept.IsKey (.int .i64) (.int .i64 b)from rfl) em 9998;have q1:(part f1.type #[.int .i64 a,.int .i64 b] f1.offset).run P w=.ok (.int .i64 a) w:=run_part_plain w p1 (by rw[o1];rfl);have q2:(part f2.type #[.int .i64 a,.int .i64 b] f2.offset).run P w=.ok (.int .i64 b) w:=run_part_plain w p2 (by rw[o2];rfl);rw[Instr.checkKey];simp only[jM,run_underlying N,jH];rw[←Array.forIn_toList];simp only[List.forIn_cons,List.forIn_nil,jM,h1,h2,ne_eq,not_false_eq_true,if_true,jH,q1,q2,k1,k2,jP]
section plain
variable{κ α:Type}[DecidableEq κ]
def kix(q:κ):List (κ×α)->Nat->Option Nat
 |[],_=>none
 |p::r,i=>if q=p.1 then some i else kix q r (i+1)
def kput(q:κ)(x:α)(l:List (κ×α)):List (κ×α):=match kix q l 0 with
 |some i=>l.set i (q,x)
 |none=>l++[(q,x)]
def zjJ{P:Program}{w:World}{K:TypeId}{kv:κ->Value}{q:κ}(xT:∀x y,(Op.equal K (kv x) (kv y)).run P w=.ok (decide (x=y)) w):∀(l:List (κ×α))(es:List MapEntry)(i:Nat),es.length=l.length->(∀(j:Nat)e p,es[j]? =some e->l[j]? =some p->e.key=kv p.1)→
 (kix q l i=none/\(Instr.findAsking K (kv q) es i).run P w=.ok none w)\/∃j e x,kix q l i=some (i+j)/\(Instr.findAsking K (kv q) es i).run P w=.ok (some (i+j,e.val)) w/\es[j]? =some e/\l[j]? =some (q,x)
 |[],[],i,_,_=>.inl ⟨rfl,rfl⟩
 |[],_::_,i,h,_=>by simp at h
 |_::_,[],i,h,_=>by simp at h
 |p::l,e::es,i,hl,hk=>by
  have x2:e.key=kv p.1:=hk 0 e p rfl rfl;have he:=xT q p.1;rw[←x2]at he;by_cases N:q=p.1
  ·refine .inr ⟨0,e,p.2,by simp[kix,N],?_,rfl,by rw[N];rfl⟩;simp only[Instr.findAsking,jM,he,jH,w8,j7 N,jP,uX]
  ·rcases zjJ xT (q:=q) l es (i+1) (ao hl) (λj e' p' h1 h2=>hk (j+1) e' p' h1 h2)with⟨h1,h2⟩|⟨j,e',x,h1,h2,h3,h4⟩
   ·exact .inl ⟨by simp[kix,N,h1],by simp[Instr.findAsking,he,N,h2]⟩
   ·refine .inr ⟨j+1,e',x,by simp[kix,N,h1];omega,?_,h3,h4⟩;simp only[Instr.findAsking,jM,he,jH,w8,N,if_false,h2];congr 2;simp;omega
theorem zkN(q:κ)(x:α)(l:List (κ×α)):(kput q x l).map (·.1)=if q∈l.map (·.1)then l.map (·.1)else l.map (·.1)++[q]:=by
 have key:∀(l:List (κ×α))(i:Nat),(kix q l i=none/\q∉l.map (·.1))\/∃j y,kix q l i=some (i+j)/\l[j]? =some (q,y):=by
  intro l
  induction l with
  |nil=>intro i;exact .inl ⟨rfl,ah⟩
  |cons p l ih=>
   intro i;by_cases K:q=p.1
   ·exact .inr ⟨0,p.2,by simp[kix,K],by rw[K];rfl⟩
   ·rcases ih (i+1)with⟨h1,N⟩|⟨j,y,h1,N⟩
    ·exact .inl ⟨by simp[kix,K,h1],by simpa[K]using N⟩
    ·exact .inr ⟨j+1,y,by simp[kix,K,h1];omega,N⟩
 unfold kput;rcases key l 0 with⟨h1,N⟩|⟨j,y,h1,N⟩
 ·rw[h1,j8 N];simp
 ·rw[u6]at h1;rw[h1,j7 (jS.2 ⟨_,j6 N,rfl⟩)];simp only;apply wN;intro i;rw[j9,j9,vF];split
  ·next e=>
   subst e;split
   ·rw[N];rfl
   ·next hn=>exact absurd (j5.1 N).1 hn
  ·rfl
end plain
structure KeyL(P:Program)(K:TypeId){κ:Type}[DecidableEq κ](kenc:κ->AV)(kv:κ->Value):Prop where
 val:∀I ρ x v,RV I ρ (kenc x) v->v=kv x
 of:∀I ρ x,RV I ρ (kenc x) (kv x)
 chk:∀em w x,(Instr.checkKey em 10000 K (kv x)).run P w=.ok () w
 wide:(match P.underlying K with|some (.array _ _)|some (.struct _)=>true|_=>false)=true
 eq:∀w x y,(Op.equal K (kv x) (kv y)).run P w=.ok (decide (x=y)) w
 stay:∀w x,(Instr.keyThatStays (kv x) (kv x)).run P w=.ok (kv x) w
section
variable{P:Program}{C:Ctx}{st:St}{ty:TypeId}{Q:Exit->St->Prop}
variable{bm k kb kh:Nat}{seen:Array Nat}{x:Operand}{α κ:Type}{kv:κ->Value}{l:List (κ×α)}{q:κ}
def zck[DecidableEq κ]{kenc:κ->AV}{venc:α->AV}{t K E:TypeId}{y z:Operand}{u c:AV}(v:α)(L:KeyL P K kenc kv)(hx:ev st x=some (.mp k))(hk:lk st.h k=some (.mpb kenc venc l))(hy:ev st y=some c)(hc:c=kenc q)
 (hz:ev st z=some u)(hu:u=venc v)(ht:P.underlying t=some (.map K E))(hf:∀v k,(venc v).fr k=true):
 yu P C (.mapUpdate t x y z) ty none st (putH st k (.mpb kenc venc (kput q v l))):=λg a w pos af gd hr K' hK=>by
 subst hc;obtain⟨b,es,ck,h1,h2,h3,h4,h5,h6⟩:=hr.sat.blk k _ hk
 have ex:a.eval x=.map (some b):=by
  obtain⟨b',e1,e2⟩:=zdc (yq hr hx);rw[e1,←e2,h1]
 have ey:a.eval y=kv q:=L.val _ _ _ _ (yq hr hy);have ez:RV g.I noNames (venc v) (a.eval z):=(hu▸yq hr hz).forget' (hf v);have xT:∀(j:Nat)e p,es.toList[j]? =some e->l[j]? =some p->e.key=kv p.1:=λj e p he N=>L.val _ _ _ _ (h6 j e p (ao he) N).1
 have hF:=run_findKey_eq w L.wide (kv q) es.toList;rcases zjJ (P:=P) (w:=w) (q:=q) (L.eq w) l es.toList 0 (ao h5.1) xT with⟨m1,m2⟩|⟨j,e,v0,m1,m2,m3,m4⟩
 ·rw[m2]at hF
  have er:(Instr.mapUpdate t (.map (some b)) (kv q) (a.eval z)).run P w=.ok () {w with heap:=w.heap.setIfInBounds b (.map (es.push {key:=kv q,val:=a.eval z,born:=ck}) (ck+1))}:=by
   simp[Instr.mapUpdate,run_underlying ht,MapKept.run_getObj_map h4,L.chk,hF,MapKept.run_setObj_map _ h4,Result.andThen]
  simp only[wp1,execOp,ex,ey,jM,er,jH,jP,zbH];refine hK _ _ _ (hr.modify h2 h3 (zbJ h4) (jG _) ⟨b,_,_,h1,h2,h3,(MapKept.heap_set h4).1,⟨?_,?_,?_⟩,?_⟩)
  ·simp[kput,m1,h5.1]
  ·simp[kput,m1,h5.2.1]
  ·intro i e he;rw[xO]at he;split at he
   ·next x2=>injection he with he;subst he;rw[x2];exact h5.2.1.trans h5.1.symm
   ·exact h5.2.2 i e he
  ·intro i e p he N;simp only[kput,m1]at N;rw[xO]at he;rw[uQ]at N;have x0:=h5.1;by_cases hi:i<es.size
   ·rw[j8 aa]at he;rw[j7 aa]at N;exact h6 i e p he N
   ·split at he
    ·next x2=>
     injection he with he;subst he;rw[j8 aa]at N;have:i-l.length=0:=aa
     rw[this]at N;simp at N;subst N;exact⟨L.of _ _ _,ez⟩
    ·rw[vK aa]at he;simp at he
 ·simp only[u6]at m1 m2;rw[m2]at hF;have x1:e.key=kv q:=xT j e _ m3 m4;have hj:es[j]? =some e:=ao m3
  have er:(Instr.mapUpdate t (.map (some b)) (kv q) (a.eval z)).run P w=.ok () {w with heap:=w.heap.setIfInBounds b (.map (es.modify j λe=>{e with key:=kv q,val:=a.eval z}) ck)}:=by
   simp[Instr.mapUpdate,run_underlying ht,MapKept.run_getObj_map h4,L.chk,hF,hj,x1,L.stay,MapKept.run_setObj_map _ h4,Result.andThen]
  simp only[wp1,execOp,ex,ey,jM,er,jH,jP,zbH];refine hK _ _ _ (hr.modify h2 h3 (zbJ h4) (jG _) ⟨b,_,_,h1,h2,h3,(MapKept.heap_set h4).1,⟨?_,?_,?_⟩,?_⟩)
  ·simp[kput,m1,h5.1]
  ·simp[kput,m1,h5.2.1]
  ·intro i e' he;rw[v6]at he;split at he
   ·next x2=>
    subst x2;rw[hj]at he;simp at he;subst he;exact h5.2.2 j e hj
   ·exact h5.2.2 i e' he
  ·intro i e' p he N;simp only[kput,m1]at N;rw[v6]at he;rw[vF]at N;by_cases hi:j=i
   ·subst hi;rw[j7 rfl]at he N;rw[hj]at he;simp at he;subst he;split at N
    ·injection N with N;subst N;exact⟨L.of _ _ _,ez⟩
    ·simp at N
   ·rw[j8 hi]at he N;exact h6 i e' p he N
def ztj{ops:Array Oper}{rest:List Oper}{d:Nat}{pos:String}{af:Array Edge}{κ α:Type}{kenc:κ->AV}{venc:α->AV}{l:List (κ×α)}{t K E:TypeId}{x:Operand}{k:Nat}(kh:Nat)
 (h:∀b bm,Ex P C ops rest ⟨(d,.val (.pointer (some ⟨b,0,none⟩)))::st.t,(kh,.hold [.map (some bm)] [.mp k])::(d,.obj b (.mapIter (some bm) l.length #[] l.length))::st.h⟩ Q)
 (hx:ev st x=some (.mp k):=by exact rfl)(hk:lk st.h k=some (.mpb kenc venc l):=by exact rfl)(ht:P.underlying t=some (.map K E):=by exact rfl)(hd:dOk C.n (some d)=true:=by exact rfl)(hn:st.fr d=true:=by exact rfl):
 Ex P C ops ({dst:=some d,op:=.range t x,type:=ty,pos:=pos,after:=af,guard:=none}::rest) st Q:=λg a w hr=>by
 obtain⟨b,es,ck,h1,h2,h3,h4,h5,h6⟩:=hr.sat.blk k _ hk
 have ex:a.eval x=.map (some b):=by
  obtain⟨b',e1,e2⟩:=zdc (yq hr hx);rw[e1,←e2,h1]
 have N:k≠d:=λe=>by
  subst e;have:=(zb9 (k:=k) (l:=st.h) (by unfold St.fr at hn;simp at hn;exact hn.2) hk).2;exact this rfl
 have er:=run_range_map w t K E b es ck ht h4;rw[h5.2.1]at er;refine wpListIn_plain rfl λK' hK=>zaf ?_
 simp only[wp1,execOp,ex,jM,er,jH,jP,zbH];refine hK _ _ ?_
 have h7:Rel C (addSt st (some d) (.val (.pointer (some ⟨w.heap.size,0,none⟩))) (some (d,.obj w.heap.size (.mapIter (some b) l.length #[] l.length)))) (g.nw C.d w.heap.size d .nilIface) (a.put (some d) (.pointer (some ⟨w.heap.size,0,none⟩))) (w.alloc (.mapIter (some b) l.length #[] l.length)):=
  hr.addSt (Add.nw (Grow.alloc _ _) C.d d _) hd hn (.val _) (ImOB.nw ⟨hr.sat.im,hr.sat.ob⟩ (Grow.alloc _ _) ah C.d d _).1 (ImOB.nw ⟨hr.sat.im,hr.sat.ob⟩ (Grow.alloc _ _) ah C.d d _).2 λk' B hB=>by
   injection hB with hB;injection hB with e1 e2;subst e1;subst e2;exact⟨heap_alloc_new w _,by simp[Gh.nw],.inl hr.ext.size⟩
 exact h _ _ _ _ _ (h7.withBlk (k:=kh) (B:=.hold [.map (some b)] [.mp k]) ⟨rfl,λj c v hc hv=>by
  cases j with
  |zero=>simp at hc hv;subst hc;subst hv;exact .mp k b (by simp[Gh.nw,N,h1])
  |succ j=>simp at hc⟩)
def zjK(C:Ctx)(st:St)(kenc:κ->AV)(venc:α->AV)(l:List (κ×α))(bm:Nat):Prop:=∀g a w,Rel C st g a w->∃es ck,w.heap[bm]? =some (.map es ck)/\(es.size=l.length/\ck=l.length/\∀(i:Nat)e,es[i]? =some e->e.born=i)∧
 ∀(i:Nat)e p,es[i]? =some e->l[i]? =some p->RV g.I noNames (kenc p.1) e.key/\RV g.I noNames (venc p.2) e.val
def zjK.own{kenc:κ->AV}{venc:α->AV}(N:lk st.h kh=some (.hold [.map (some bm)] [.mp k]))(hk:lk st.h k=some (.mpb kenc venc l)):zjK C st kenc venc l bm:=λg a w hr=>by
 obtain⟨b',es,ck,h1,h2,h3,K,h5,h6⟩:=hr.sat.blk k _ hk;obtain⟨_,q⟩:=hr.sat.blk kh _ N;obtain⟨b2,e1,e2⟩:=zdc (q 0 _ _ rfl rfl);rw[h1]at e2;injection e1 with e1;injection e1 with e1;injection e2 with e2;injection e2 with e2;subst e1;subst e2;exact⟨es,ck,K,h5,h6⟩
def Ex.nxtM{ops:Array Oper}{rest:List Oper}{d e:Nat}{ty':TypeId}{pos pos':String}{af af':Array Edge}{κ α:Type}{kenc:κ->AV}{venc:α->AV}{l:List (κ×α)}{x:Operand}{b bm kb c0:Nat}{seen:Array Nat}
 (h:∀(mo:Bool)(i:Nat),(mo=false->∀i,i<l.length->seen.contains i=true)->(mo=true->i<l.length/\seen.contains i=false)→
  Ex P C ops rest ⟨(e,.bool mo)::(d,.any)::st.t,(kb,.obj b (.mapIter (some bm) l.length (bif mo then seen.push i else seen) (bif mo then l.length else c0)))::st.h⟩ Q)
 (hc:l.length<=c0:=by exact jG _)
 (hx:ev st x=some (.val (.pointer (some ⟨b,0,none⟩))):=by exact rfl)(hb:lk st.h kb=some (.obj b (.mapIter (some bm) l.length seen c0)):=by exact rfl)(hm:zjK C st kenc venc l bm)
 (hd:dOk C.n (some d)=true:=by exact rfl)(he:dOk C.n (some e)=true:=by exact rfl):
 Ex P C ops ({dst:=some d,op:=.next x false,type:=ty,pos:=pos,after:=af,guard:=none}::{dst:=some e,op:=.extract (.tmp d) 0,type:=ty',pos:=pos',after:=af',guard:=none}::rest) st Q:=λg a w hr=>by
 obtain⟨es,ck,h4,h5,h6⟩:=hm g a w hr;obtain⟨q1,q2,q3⟩:=hr.sat.blk kb _ hb;have ex:a.eval x=.pointer (some ⟨b,0,none⟩):=zac (yq hr hx)
 have x1:∀y∈es.toList,∃i,es[i]? =some y/\i<l.length:=λy hy=>by
  obtain⟨i,hi⟩:=jL.1 hy;have N:es[i]? =some y:=ao hi
  refine⟨i,N,?_⟩;rw[←h5.1];exact(wU.1 N).1
 have x0:d<a.tmps.size:=by rw[hr.size];simpa[dOk]using hd
 have fin:∀(mo:Bool)(i:Nat)(w1 w2:World)(v:Value),(mo=false->∀i,i<l.length->seen.contains i=true)->(mo=true->i<l.length/\seen.contains i=false)->(w1=w\/w1=w.drew)→
  w2=(bif mo then setBlock w1 b (.mapIter (some bm) l.length (seen.push i) l.length)else w1)->(Instr.next (.pointer (some ⟨b,0,none⟩)) false ty).run P w=.ok v w2->(∃r,v=.tuple r/\r[0]? =some (.bool mo))→
  wpListIn C.F 0 P ops (lift C Q) ({dst:=some d,op:=.next x false,type:=ty,pos:=pos,after:=af,guard:=none}::{dst:=some e,op:=.extract (.tmp d) 0,type:=ty',pos:=pos',after:=af',guard:=none}::rest) a w:=by
  intro mo i w1 w2 v v3 v2 v9 v1 v8 hv;obtain⟨r,rfl,v0⟩:=hv;refine wpListIn_plain rfl λK' hK=>zaf ?_
  simp only[wp1,execOp,ex,jM,v8,jH,jP,zbH];refine hK _ _ ?_;refine wpListIn_plain rfl λK' hK=>zaf ?_
  have ee:(a.put (some d) (.tuple r)).eval (.tmp d)=.tuple r:=by
   simp[Act.eval,Act.put,x0]
  simp only[wp1,execOp,ee,Instr.extract,v0,jM,jH,jP,zbH];refine hK _ _ ?_
  have v5:Rel C st g a w1:=by
   rcases v9 with rfl|rfl
   ·exact hr
   ·exact hr.add (nk:=none) (d:=none) (x:=.any) (v:=.nilIface) ⟨Im.le_refl _,λ_ _=>rfl,λ_ _=>rfl,Grow.drew w⟩ (λk h=>by simp at h) (λt h=>by simp at h) (.any _) hr.sat.im hr.sat.ob
  have K:w1.heap[b]? =w.heap[b]? :=by rcases v9 with rfl|rfl<;>rfl
  have xT:Rel C (putH st kb (.obj b (.mapIter (some bm) l.length (bif mo then seen.push i else seen) (bif mo then l.length else c0)))) g a w2:=by
   subst v1;cases mo with
   |false=>exact v5.withBlk ⟨K.trans q1,q2,q3⟩
   |true=>
    refine v5.modify q2 q3 ⟨rfl,rfl,rfl,by simp[setBlock],λj hj k9=>?_⟩ (jG _) ⟨?_,q2,q3⟩
    ·have:b≠j:=λe=>k9 (by rw[e])
     simp[setBlock,uK,this]
    ·have k8:=zb (K.trans q1);simp[setBlock,uK,k8]
  have x2:=xT.addSt (nb:=none) (d:=some d) (x:=.any) (v:=.tuple r) (Add.refl _ g w2) hd rfl (.any _) xT.sat.im xT.sat.ob (λ_ _ h=>by cases h);have k7:=x2.addSt (nb:=none) (d:=some e) (x:=.bool mo) (v:=.bool mo) (Add.refl _ g w2) he rfl (.bool _) x2.sat.im x2.sat.ob (λ_ _ h=>by cases h);exact h mo i v3 v2 g _ w2 k7
 rcases run_next_at (P:=P) w ty b bm l.length c0 seen es ck q1 h4 (λy hy=>by
  obtain⟨i,hi,hl⟩:=x1 y hy;rw[h5.2.2 i y hi];exact hl) hc with⟨n1,n2⟩|⟨y,n1,w1,n2,n3⟩
 ·refine fin false 0 w w _ (λ_ i hi=>?_) ah (.inl rfl) rfl n2 ⟨_,rfl,rfl⟩;have N:i<es.size:=by rw[h5.1];exact hi
  cases k6:seen.contains i with
  |true=>rfl
  |false=>
   have hm:es[i]∈leftOf es seen:=by
    unfold leftOf;refine Array.mem_filter.2 ⟨Array.getElem_mem N,?_⟩;rw[h5.2.2 i _ (jZ N),k6];rfl
   have:=Array.size_pos_of_mem hm;omega
 ·have hl:=mem_left n1;obtain⟨i,hi,k5⟩:=x1 y hl.1;have v4:=h5.2.2 i y hi;rw[v4,h5.2.1]at n3;rw[v4]at hl;exact fin true i w1 _ _ ah (λ_=>⟨k5,hl.2⟩) n2 rfl n3 ⟨_,rfl,rfl⟩
def Ex.nxt{ops:Array Oper}{rest:List Oper}{d e:Nat}{ty':TypeId}{pos pos':String}{af af':Array Edge}{κ α:Type}{kenc:κ->AV}{venc:α->AV}{l:List (κ×α)}{x:Operand}{k b bm kb kh c0:Nat}{seen:Array Nat}
 (h:∀(mo:Bool)(i:Nat),(mo=false->∀i,i<l.length->seen.contains i=true)->(mo=true->i<l.length/\seen.contains i=false)→
  Ex P C ops rest ⟨(e,.bool mo)::(d,.any)::st.t,(kb,.obj b (.mapIter (some bm) l.length (bif mo then seen.push i else seen) (bif mo then l.length else c0)))::st.h⟩ Q)
 (N:l.length<=c0:=by exact jG _)
 (hx:ev st x=some (.val (.pointer (some ⟨b,0,none⟩))):=by exact rfl)(K:lk st.h kb=some (.obj b (.mapIter (some bm) l.length seen c0)):=by exact rfl)(hh:lk st.h kh=some (.hold [.map (some bm)] [.mp k]):=by exact rfl)(hk:lk st.h k=some (.mpb kenc venc l):=by exact rfl)
 (hd:dOk C.n (some d)=true:=by exact rfl)(he:dOk C.n (some e)=true:=by exact rfl):
 Ex P C ops ({dst:=some d,op:=.next x false,type:=ty,pos:=pos,after:=af,guard:=none}::{dst:=some e,op:=.extract (.tmp d) 0,type:=ty',pos:=pos',after:=af',guard:=none}::rest) st Q:=
 Ex.nxtM h N hx K (zjK.own hh hk) hd he
def znj{kenc:κ->AV}{venc:α->AV}{b i:Nat}(p:κ×α)(hp:l[i]? =some p)
 (hx:ev st x=some (.val (.pointer (some ⟨b,0,none⟩))))(hb:lk st.h kb=some (.obj b (.mapIter (some bm) l.length (seen.push i) l.length)))(hm:zjK C st kenc venc l bm)
 (hf:∀v k,(kenc v).fr k=true)(hg:∀v k,(venc v).fr k=true):
 Pur P C (.entry x) ty st (.tup [kenc p.1,venc p.2]):=λg a w dst pos af gd hr=>by
 obtain⟨es,ck,h4,K,h6⟩:=hm g a w hr;obtain⟨q1,q2,q3⟩:=hr.sat.blk kb _ hb;have ex:a.eval x=.pointer (some ⟨b,0,none⟩):=zac (yq hr hx);have xT:i<es.size:=by rw[K.1];exact(j5.1 hp).1
 have hi:es[i]? =some es[i]:=jZ xT;have N:=K.2.2 i _ hi;rw[←N,←K.2.1]at q1;rw[K.2.1]at q1
 have x1:(es.toList.map (·.born)).Nodup:=by
  have:es.toList.map (·.born)=List.range es.size:=by
   apply wN;intro j;rw[j9,v7];by_cases hj:j<es.size
   ·rw[uY hj,jZ hj];exact jA some (K.2.2 j _ (jZ hj))
   ·rw[vK aa,wO aj];rfl
  rw[this];exact List.nodup_range
 have x2:=run_entry_at (P:=P) w b bm l.length seen es ck es[i] (by rw[N];rw[N]at q1;rw[K.2.1];exact q1) h4 (Array.getElem_mem xT|>Array.mem_toList_iff.2) x1;obtain⟨r1,r2⟩:=h6 i _ p hi hp;refine⟨.tuple #[es[i].key,es[i].val],?_,?_⟩
 ·simp only[execOp,ex,jM,x2,jH,jP]
 ·refine .tup _ [es[i].key,es[i].val] rfl λj c u hc hv=>?_
  rcases j with _|_|j
  ·simp at hc hv;subst hc;subst hv;exact r1.forget' (hf _)
  ·simp at hc hv;subst hc;subst hv;exact r2.forget' (hg _)
  ·simp at hc
def zpV{kenc:κ->AV}{venc:α->AV}{b i:Nat}(p:κ×α)(N:l[i]? =some p)
 (hx:ev st x=some (.val (.pointer (some ⟨b,0,none⟩))))(K:lk st.h kb=some (.obj b (.mapIter (some bm) l.length (seen.push i) l.length)))(hh:lk st.h kh=some (.hold [.map (some bm)] [.mp k]))(hk:lk st.h k=some (.mpb kenc venc l))
 (hf:∀v k,(kenc v).fr k=true)(hg:∀v k,(venc v).fr k=true):
 Pur P C (.entry x) ty st (.tup [kenc p.1,venc p.2]):=
 znj p N hx K (zjK.own hh hk) hf hg
end
end Go.Rse
namespace Go.Rse
open Go Go.RowKit
section
variable{P:Program}{C:Ctx}{st:St}{ty:TypeId}
end
end Go.Rse
namespace Go.Rse
open Go
variable{C:Ctx}{P':Program}{c:Code}{f:FuncId}{p:Prop}{st:St}{α:Sort _}
def getX{α:Type}(l:List α)(k:Nat)(h:k<l.length):∃x,l[k]? =some x/\l[(k:Int).toNat]? =some x:=⟨_,jC h,jC h⟩
def zoe{P:Program}{C:Ctx}{Q:Exit->St->Prop}{st:St}{c:Code}(I:Nat->List (Nat×AV))(H:Nat->List (Nat×Blk))(J:Nat->Prop)(n:Nat)(h:∀i,J i->X P C c ⟨I i,H i⟩ (zcb (λst'=>∃i',Imp C st' ⟨I i',H i'⟩/\J i'/\n-i'<n-i) Q))(hJ:J 0:=by first|trivial|omega|(refine⟨?_,?_⟩<;>omega))(h0:Imp C st ⟨I 0,H 0⟩:=by exact Imp.ax):X P C (.loop c) st Q:=ze8 I H J (λk=>n-k) 0 h hJ h0
def zvc{P:Program}{Q:Exit->St->Prop}(I:Nat->List (Nat×AV))(H:Nat->List (Nat×Blk))(n:Nat)(h:∀i,i<=n->X P C c ⟨I i,H i⟩ (zcb (λst'=>∃i',Imp C st' ⟨I i',H i'⟩/\i'<=n/\n-i'<n-i) Q))(h0:Imp C st ⟨I 0,H 0⟩:=by exact Imp.ax):X P C (.loop c) st Q:=ze8 I H (λk=>k<=n) (λk=>n-k) 0 h (jU _) h0
def zE{a b:α}(q:a=b)(h:a=b->p:=by intro q;first|(rw[q];done)|(rw[q];rfl)):p:=h q
def zR(h:p:=by first|rfl|(simp_all;done)):p:=h
structure Hd(Q:Prop):Prop where
 h:Q
def gq{P Q:Prop}(k:Q)(h:Hd Q→P:=by intro k;(repeat'(first|apply yp|apply zkF|apply yc|apply Ex.nil|apply ye|apply yd|apply yf|apply X.block|apply X.ret|apply X.exit|apply X.scope|(show Ex _ _ _ (_::_) _ _;first|refine ya ?_|refine zl ?_|refine yP ?_|refine Ex.mo ?_)|(show ExF _ _ _ _ _ _ _;first|refine ExF.gi ?_|refine yw ?_)|(show RetQ _ _ [.tmp _] _ _ _;refine zeU ?_)));exact k.h):P:=h ⟨k⟩
def gd{P Q R:Prop}(k:Q)(l:R)(h:Hd Q→Hd R→P:=by intro k l;(repeat'(first|apply yp|apply zkF|apply yc|apply Ex.nil|apply ye|apply yd|apply yf|apply X.block|apply X.ret|apply X.exit|apply X.scope|(show Ex _ _ _ (_::_) _ _;first|refine ya ?_|refine zl ?_|refine yP ?_|refine Ex.mo ?_)|(show ExF _ _ _ _ _ _ _;first|refine ExF.gi ?_|refine yw ?_)|(show RetQ _ _ [.tmp _] _ _ _;refine zeU ?_)));refine zDE rfl ?_ ?_;exact k.h;exact l.h):P:=h ⟨k⟩ ⟨l⟩
def ge{P Q:Prop}(k:Q)(h:Hd Q→P:=by intro k;apply zne;(repeat'(first|apply yp|apply zkF|apply yc|apply Ex.nil|apply ye|apply yd|apply yf|apply X.block|apply X.ret|apply X.exit|apply X.scope|(show Ex _ _ _ (_::_) _ _;first|refine ya ?_|refine zl ?_|refine yP ?_|refine Ex.mo ?_)|(show ExF _ _ _ _ _ _ _;first|refine ExF.gi ?_|refine yw ?_)|(show RetQ _ _ [.tmp _] _ _ _;refine zeU ?_)));exact k.h):P:=h ⟨k⟩
def gf{P Q R:Prop}(k:Q)(l:R)(h:Hd Q→Hd R→P:=by intro k l;apply zne;(repeat'(first|apply yp|apply zkF|apply yc|apply Ex.nil|apply ye|apply yd|apply yf|apply X.block|apply X.ret|apply X.exit|apply X.scope|(show Ex _ _ _ (_::_) _ _;first|refine ya ?_|refine zl ?_|refine yP ?_|refine Ex.mo ?_)|(show ExF _ _ _ _ _ _ _;first|refine ExF.gi ?_|refine yw ?_)|(show RetQ _ _ [.tmp _] _ _ _;refine zeU ?_)));refine zDE rfl ?_ ?_;exact k.h;exact l.h):P:=h ⟨k⟩ ⟨l⟩
def ztk{α:Type}{P:Program}{C:Ctx}{st:St}{ty:TypeId}{enc:α→List AV}{l:List α}{t E:TypeId}{ag:Bool}{s n:Nat}{parts:Array (Nat×Operand)}{ps:List (Nat×AV)}{z:Value}(ht:slOk P t E=true)(hE:tyOk P E ag s=true)(hz:(P.info? E).bind (·.zero)=some z)(N:0<s:=by decide)(hp:zbI st parts.toList=some ps:=by exact rfl)(hk:zci ps=true:=by exact rfl)(hf:zfn (λi=>some (i*s,s)) (List.replicate (n*s) .any) ps=some (l.flatMap enc):=by exact rfl)(K:l.length=n:=by exact rfl)(hn:n*s≤16777216:=by decide)(hm:n≤1000000:=by decide)(hs:∀x,(enc x).length=s:=by exact(λ_=>rfl))(xT:AV.nm.nmL (l.flatMap enc)=true:=by exact rfl):yy P C (.buildSlice t n parts) ty st (.sl enc l) none:=zu ht hE hz N hp hk hf K hn hm hs xT
def gc{az:List AV}{r:AV}{P Q:Prop}(c:Fn P' f az r)(k:Q)(h:Fn P' f az r→Hd Q→P:=by intro c k;(repeat'(first|apply yp|apply zkF|apply yc|apply Ex.nil|apply ye|apply yd|apply yf|apply X.block|apply X.ret|apply X.exit|apply X.scope|(show Ex _ _ _ (_::_) _ _;first|refine ya ?_|refine zl ?_|refine yP ?_|refine Ex.mo ?_)|(show ExF _ _ _ _ _ _ _;first|refine ExF.gi ?_|refine yw ?_)|(show RetQ _ _ [.tmp _] _ _ _;refine zeU ?_)));refine zf c ?_;(repeat'(first|apply yp|apply zkF|apply yc|apply Ex.nil|apply ye|apply yd|apply yf|apply X.block|apply X.ret|apply X.exit|apply X.scope|(show Ex _ _ _ (_::_) _ _;first|refine ya ?_|refine zl ?_|refine yP ?_|refine Ex.mo ?_)|(show ExF _ _ _ _ _ _ _;first|refine ExF.gi ?_|refine yw ?_)|(show RetQ _ _ [.tmp _] _ _ _;refine zeU ?_)));exact k.h):P:=h c ⟨k⟩
def kW:=@Imp.ax
def kX:=@X.block
def kY:=@Imp.freeze
def kZ:=@LeV.eq
def bA:=@Pur.stepA
def bB:=@Fn.go
def bC:=@X.ret
def bD:=@Ex.nil
def bE:=@ExF.gi
def bF:=@Ex.mo
def bG:=@Imp.freezeBox
def bH:=@X.exit
def bI:=@ExF.at
def bJ:=@RetQ.ret
def bK:=@LeL.refl
def bL:=@ChM.gi
def bM:=@LeV.refl
def bN:=@LeB.refl
def bO:=@LeV.nils
def bP:=@Ex.stepA
def bQ:=@LeB.eq
def bR:=@FnO.gx
def bS:=@Im.le_refl
def bT:=@ExF.cg
def bU:=@FnE.gx
def bV:=@X.range
def bW:=@LeB.row
def bX:=@Ex.yield
def bY:=@Imp.mv
def bZ:=@ChM.cg
def c7:=@Imp.of
def c8:=@FnO.gX
def c9:=@Grow.alloc
end Go.Rse
