/-
  Rules.
-/
import Derived.Test.YtpapdhoblekoeaaGreatDoorZJRse53
set_option linter.all false
set_option maxHeartbeats 8000000
namespace Go.Rse
open Go Go.RowKit Go.Proofs.Tryz
section
section
variable{P:Program}{C:Ctx}{st:St}{ty:TypeId}
variable{ag:Bool}{j:Nat}{kk:IntKind}{q:Int}{α:Type}{enc:α->List AV}{u:α}
def zaP{t n E s:Nat}{x y:Operand}(hx:ev st x=some (.ept enc u j))(K:ev st y=some (.int kk q))(ht:zba P t n E=true)(hE:tyOk P E ag s=true)(h0:0<=q)(h1:q<n):
 Pur P C (.indexAddr t x y) ty st (.ept enc u (j+q.toNat*s)):=λg a w dst pos af gd hr=>by
 have N:=yq hr hx;have ey:=yK (yq hr K);generalize H:a.eval x=v at N;cases N with
 |ept _ _ _ b o vs hI N=>
  refine⟨.pointer (some ⟨b,o+j+q.toNat*s,none⟩),?_,?_⟩
  ·simp[execOp,Instr.indexAt,asIntOf,Instr.sureAddr,H,ey,run_underlying (zb1 ht),h0,h1,yJ hE,zG]
  ·rw[uB];exact .ept enc u (j+q.toNat*s) b o vs hI N
end
end
section
section
variable{P:Program}{C:Ctx}{st:St}{ty:TypeId}
variable{i:Int}{kk:IntKind}{s:ByteArray}{t:TypeId}{x:Operand}
def zgb{y:Operand}(ht:P.underlying t=some .string)(hx:ev st x=some (.str s))(N:ev st y=some (.int kk i))(h0:0<=i)(h1:i.toNat<s.size):
 Pur P C (.index t x y) ty st (.int .u8 ((s[i.toNat]'h1).toNat:Int)):=λg a w dst pos af gd hr=>by
 have ex:=zil (yq hr hx);have ey:=yK (yq hr N);refine⟨.int .u8 ((s[i.toNat]'h1).toNat:Int),?_,.int _ _⟩;simp[execOp,Instr.index,asIntOf,ex,ey,run_underlying ht,h0,h1]
def zfy(ht:P.underlying t=some .string)(hx:ev st x=some (.str s)):
 Pur P C (.call {callee:=.builtin .len,args:= #[x],argTypes:= #[t]}) ty st (.int .i64 s.size):=λg a w dst pos af gd hr=>by
 have ex:=zil (yq hr hx);refine⟨.int .i64 s.size,?_,.int _ _⟩;simp[execOp,resolve,invoke,builtin,ex,Builtin.len_,run_underlying ht,Result.andThen];rfl
end
end
section
variable{C:Ctx}{P:Program}{c:Int}{i k:Nat}{kk:IntKind}{l:List Int}{s:ByteArray}{st:St}{t ty:TypeId}
section
variable{P:Program}{C:Ctx}{st:St}{ty:TypeId}
variable{t yt:TypeId}
def zqb{x y:Operand}{p q:ByteArray}(hx:ev st x=some (.str p))(N:ev st y=some (.str q)):Pur P C (.binOp .eql t x y yt) ty st (.bool (p.toList==q.toList)):=λg a w dst pos af gd hr=>by
 refine⟨.bool (p.toList==q.toList),?_,.bool _⟩;have e1:=zil (yq hr hx);have e2:=zil (yq hr N);have K:(eqGuard .eql t x y (.string p) (.string q)).run P w=.ok () w:=by unfold eqGuard;simp
 have h1:(Op.stringOp .eql p q).run P w=.ok (.bool (p.toList==q.toList)) w:=by simp[Op.stringOp]
 simp only[execOp,e1,e2,jM,K,jH,binOp,h1,jP]
end
def bsB(s:ByteArray):List Int:=s.data.toList.map λx=>(x.toNat:Int)
def zzu(s:ByteArray):(bsB s).length=s.size:=by unfold bsB;simp
def zCk(h:i<s.size):(bsB s).getD i 0=((s[i]'h).toNat:Int):=by
 have N:i<s.data.toList.length:=ao h
 unfold bsB;rw[jB,j9,lgg N];rfl
def zcc{x y:Operand}{i:Int}(ht:P.underlying t=some .string)(hx:ev st x=some (.str s))(K:ev st y=some (.int kk i))(h0:0<=i)(h1:i<(s.size:Int)):
 Pur P C (.index t x y) ty st (.int .u8 ((bsB s).getD i.toNat 0)):=by
 have N:i.toNat<s.size:=aa
 rw[zCk N];exact zgb ht hx K h0 N
def lwB(c:Int):Bool:=decide (97<=c)&&decide (c<=122)
def dcB(c:Int):Bool:=decide (48<=c)&&decide (c<=57)
def nkB(c:Int):Bool:=lwB c||dcB c||decide (c=45)
def nmQ(l:List Int):Bool:=l.all nkB&&(decide (0<l.length)&&decide (l.length<=20)&&lwB (l.getD 0 0))
def zCl(h:(c<97\/122<c)/\(c<48\/57<c)/\¬c=45):nkB c=false:=by
 unfold nkB lwB dcB;simp;omega
def zCm(h:¬((c<97\/122<c)/\(c<48\/57<c)/\¬c=45)):nkB c=true:=by
 unfold nkB lwB dcB;simp;omega
def zzv(hk:k<l.length)(h:nkB (l.getD k 0)=false):nmQ l=false:=by
 have hm:l.getD k 0∈l:=by rw[jB,lgg hk];exact wK hk
 unfold nmQ;rw[vO];left;rw[List.all_eq_false];exact⟨_,hm,by rw[h];simp⟩
def zzw(h:l.all nkB=true):nmQ l=(decide (0<l.length)&&decide (l.length<=20)&&lwB (l.getD 0 0)):=by
 unfold nmQ;rw[h,Bool.true_and]
def zHH(h:l.length=0\/20<l.length\/lwB (l.getD 0 0)=false):nmQ l=false:=by
 unfold nmQ;rw[vO];right;rw[vO,vO,uT,uT];rcases h with h|h|h
 ·left;left;omega
 ·left;right;omega
 ·right;exact h
def zHI(h:(l.take k).all nkB=true)(hk:k<l.length)(ho:nkB (l.getD k 0)=true):(l.take (k+1)).all nkB=true:=by
 rw[jB,lgg hk]at ho;rw[jK,lgg hk,List.all_append,h];simpa using ho
end
end Go.Rse
namespace Go.Rse
open Go Go.Proofs Go.Proofs.Tryz
attribute [local irreducible] Pur yy yu Ex X Fn Imp LeV LeB FnO It yA
section
variable{k:Int}{p:Pt}
def hvS(k:Int):Int:=[0,2,4,5,7,9,11].getD k.toNat 0
def piN(p:Pt):Int:=7*p.Oct+p.Step
def piH(n a:Int):Int:=12*(n/7)+hvS (n%7)+a
def zCn(h:0<=k/\k<7):(gcE hlvL)[0+k.toNat*1]? =some (iv (hvS k)):=by
 have:k=0\/k=1\/k=2\/k=3\/k=4\/k=5\/k=6:=aa
 rcases this with h|h|h|h|h|h|h<;>subst h<;>rfl
def zCo(h:0<=k/\k<7):0<=hvS k/\hvS k<=11:=by
 have:k=0\/k=1\/k=2\/k=3\/k=4\/k=5\/k=6:=aa
 rcases this with h|h|h|h|h|h|h<;>subst h<;>decide
def PtV.n(h:PtV p):0<=piN p/\piN p<=62:=by
 have:=h.s;have:=h.o;unfold piN;omega
def zo1{n a:Int}(h:0<=n/\n<=62)(N:-1<=a/\a<=1):-1<=piH n a/\piH n a<=120:=by
 have:=zCo (k:=n%7) aa;unfold piH;omega
attribute [local irreducible] hvS
def zaG(p:Pt)(h:PtV p):Fn prog 116 [piA p] (iv 0):=by
 refine bB func116 ntmps116 (λg w d=>?_);apply yc;refine zl ?_;refine yk ?_;apply ye;apply yc;iterate 3 refine ya ?_
 refine bI 3 ?_;refine yw ?_;iterate 3 refine bE ?_
 iterate 2 refine yw ?_
 iterate 3 refine bE ?_
 iterate 2 refine yw ?_
 iterate 3 refine bE ?_
 iterate 2 refine yw ?_
 iterate 3 refine bE ?_
 iterate 2 refine yw ?_
 iterate 3 refine bE ?_
 refine gf ?_ ?_<;>intro N
 ·exact absurd N (by have:=h.s;have:=h.o;have:=h.a;omega)
 refine gq ?_;all_goals exact zR
def zdH(p:Pt)(h:PtV p):Fn prog 286 [piA p] (.agg [iv (piN p),iv p.Alt]):=by
 have h1:=h.s;have N:=h.o;refine bB func286 ntmps286 (λg w d=>?_);refine gq ?_;refine bJ (.one (.cellA rfl rfl rfl rfl zx5 (kZ ?_)));all_goals exact zR
def za3(n a:Int)(h:0<=n/\n<=62)(N:-1<=a/\a<=1):Fn prog 287 [.agg [iv n,iv a]] (iv (piH n a)):=by
 have K:=zCo (k:=n%7) aa;refine bB func287 ntmps287 (λg w d=>?_);refine gq ?_;refine y4 [2,3,4,5,6,7,8,9,10,11,12,13,14,15] [0,1,3,7,0,16,48,112,240,511,0,1024,4095,8191] mo ?_;iterate 7 refine yb ?_
 refine ChM.step rfl rfl rfl (bA (zaP rfl rfl ArK.h ty3 aa aa)) rfl ?_;refine ChM.step rfl rfl rfl (bA (zaa rfl (zCn (k:=n%7) aa) rfl ty3)) rfl ?_;iterate 5 refine yb ?_
 refine yD ?_;refine gq ?_;all_goals(first|rfl|(unfold piH;rfl))
def zbz(p:Pt)(h:PtV p):Fn prog 252 [piA p] (.tup [iv (piN p),iv 0]):=by
 refine bB func252 ntmps252 (λg w d=>?_);refine gc (zaG p h) ?_;refine gd ?_ ?_<;>intro N
 ·exact absurd N ac
 refine gq ?_;refine zf (zdH p h) ?_;refine yO (zdQ (off:=0) (T:=3) ae ty3 rfl rfl) rfl ?_;refine gq ?_;refine yn ?_ ?_;all_goals exact zR
def zej(p:Pt)(h:PtV p):Fn prog 372 [piA p] (.tup [iv (piH (piN p) p.Alt),iv 0]):=by
 refine bB func372 ntmps372 (λg w d=>?_);refine gc (zaG p h) ?_;refine gd ?_ ?_<;>intro N
 ·exact absurd N ac
 refine gq ?_;refine zf (zdH p h) ?_;refine gc (za3 _ _ h.n h.a) ?_;refine yn ?_ ?_;all_goals exact zR
def zhU(p q:Pt)(h:PtV p)(N:PtV q):Fn prog 248 [piA p,piA q] (.tup [.agg [iv (piN q-piN p),iv (piH (piN q) q.Alt-piH (piN p) p.Alt)],iv 0]):=by
 have n1:=h.n;have n2:=N.n;have b1:=zo1 n1 h.a;have b2:=zo1 n2 N.a;refine bB func248 ntmps248 (λg w d=>?_);apply yc;iterate 2 refine zl ?_
 refine yP ?_;refine yk ?_;apply ye;apply yc;refine ya ?_;refine yo ?_;apply kX;refine y9 [2,3,4,13] (λk zz=>(14,iv (k:Int))::zz) [2,3,4] (λ_ zz=>zz) 2 (λk hk=>?_);refine gd ?_ ?_<;>intro xT
 ·obtain⟨x,K,H⟩:∃x:Pt,(([iv p.Step,iv p.Oct,iv p.Alt,iv q.Step,iv q.Oct,iv q.Alt]:List AV).drop ((k:Int).toNat*3)).take 3=piE x/\PtV x:=by
   have:k=0\/k=1:=aa
   rcases this with rfl|rfl
   ·exact⟨p,rfl,h⟩
   ·exact⟨q,rfl,N⟩
  apply yf;apply ye;apply kX;apply yc;refine yO (zO (ys:=piE x) ArK.h ty60 rfl rfl aa aa K) rfl ?_;refine gc (zaG x H) ?_;refine gd ?_ ?_<;>intro G
  ·exact absurd G ac
  refine gq ?_;refine yr (k+1) (hI:=kW)
 ·refine gq ?_;refine y4 [9,10,24,25,26,27] [0,1,0,7,0,0,63,127] mo ?_;refine yb ?_;refine yI (zdH p h) ?_;refine yb ?_;refine yI (zdH q N) ?_;refine ChM.step rfl rfl rfl (zd (k:=9) ztr) rfl ?_;refine ChM.step rfl rfl rfl (zd (k:=10) ztr) rfl ?_;refine yD ?_;refine gq ?_;refine y4 [28,29,30,31,32,33,34,35,36,37] [0,1,0,4,15,0,32,0,224,480,1023,2047,4095] mo ?_;iterate 6 refine yb ?_
  refine yI (za3 _ _ n2 N.a) ?_;refine yb ?_;refine yI (za3 _ _ n1 h.a) ?_;refine yb ?_;refine yD ?_;refine gq ?_;refine yR zkR ?_ ?_;all_goals exact zR
def clN(place:Int):Pt:=⟨(24+place)%7,(24+place)/7,0⟩
def flB:ByteArray:=⟨#[48,48,50,48,48,48,49]⟩
def zHJ:flB.size=7:=rfl
def zHK(h:0<=k/\k<7):48<=(bsB flB).getD k.toNat 0/\(bsB flB).getD k.toNat 0<=50:=by
 have:k=0\/k=1\/k=2\/k=3\/k=4\/k=5\/k=6:=aa
 rcases this with h|h|h|h|h|h|h<;>subst h<;>decide+kernel
def zCp(h:-4<=k/\k<=12):PtV (clN k):=⟨by grind[clN],by grind[clN],by simp[clN]⟩
def zly:Fn prog 122 [.agg [iv 0,iv 3]] (iv 0):=by
 refine bB func122 ntmps122 (λg w d=>?_);apply yc;refine zl ?_;refine yk ?_;apply ye;apply kX;apply yc;iterate 3 refine ya ?_
 refine bI 3 ?_;refine yw ?_;iterate 3 refine bE ?_
 iterate 2 refine yw ?_
 iterate 3 refine bE ?_
 refine gf ?_ ?_<;>intro N
 ·exact absurd N ac
 apply yc;iterate 3 refine ya ?_
 refine bI 3 ?_;refine yw ?_;iterate 3 refine bE ?_
 refine gf ?_ ?_<;>intro K
 ·exact absurd K ac
 refine gq ?_;all_goals exact zR
def zjW(k:Int)(h:-4<=k/\k<=12):Fn prog 78 [iv k] (.bool true):=by
 refine bB func78 ntmps78 (λg w d=>?_);apply yc;refine ya ?_;apply yp;iterate 2 refine ya ?_
 refine bI 2 ?_;refine yw ?_;iterate 2 refine bE ?_
 refine ge ?_;all_goals exact zR
def zlz:Fn prog 77 [.agg [iv 0,iv 3],iv 0] (iv 0):=by
 refine bB func77 ntmps77 (λg w d=>?_);refine gc (zly ..) ?_;refine gd ?_ ?_<;>intro N
 ·exact absurd N ac
 apply yf;apply ye;apply yc;iterate 2 refine ya ?_
 refine bI 2 ?_;refine yw ?_;iterate 2 refine bE ?_
 refine gf ?_ ?_<;>intro K
 ·exact absurd K ac
 refine gq ?_;all_goals exact zR
def zjX:Fn prog 79 [.agg [iv 0,iv 3]] (iv 24):=by
 refine bB func79 ntmps79 (λg w d=>?_);refine gq ?_;refine y4 [2,3,4,5,6,7,8,9,10,11] [0,1,3,7,0,16,48,112,255,511] mo ?_;iterate 2 refine yb ?_
 refine yb (x:=.int .u8 28) (hs:=by exact zgb (s:=⟨#[28,0,0,24,32]⟩) (i:=0) (kk:=.i64) Tryz.underlying9 rfl rfl ac ac) ?_;iterate 7 refine yb ?_
 refine yD ?_;refine gq ?_;all_goals exact zR
def zlA(k:Int)(h:0<=k/\k<7):Fn prog 80 [iv 0,iv k] (iv 0):=by
 have K:=zHK h;refine bB func80 ntmps80 (λg w d=>?_);apply yc;refine yk ?_;apply ye;apply yc;refine ya ?_;refine yO (zcc (s:=flB) Tryz.underlying9 rfl rfl aa (by rw[zHJ];omega)) rfl ?_;generalize(bsB flB).getD k.toNat 0=v at*
 refine yO (zkx rfl rfl (IntWalk.u8_in _ aa)) rfl ?_;iterate 2 refine ya ?_
 apply yp;iterate 2 refine ya ?_
 refine bI 2 ?_;refine yw ?_;iterate 3 refine bE ?_
 refine gf ?_ ?_<;>intro N
 ·exact absurd N aa
 refine gq ?_;all_goals exact zR
def zlB(k:Int)(h:-4<=k/\k<=12):Fn prog 39 [.agg [iv 0,iv 3],iv 0,iv k,iv 0] (.tup [piA (clN k),iv 0]):=by
 refine bB func39 ntmps39 (λg w d=>?_);refine gc (zlz ..) ?_;refine gd ?_ ?_<;>intro N
 ·exact absurd N ac
 refine gc (zjW k h) ?_;refine gd ?_ ?_<;>intro K
 ·cases K
 refine gc (zjX ..) ?_;refine gd ?_ ?_<;>intro H
 ·refine gc (zlA ((24+k)%7) aa) ?_;refine yR ty60 ?_ ?_;all_goals exact zR
 ·exact absurd rfl H
end
section
attribute [local irreducible] gI
def zlC(a b:Int)(h0:0<=a)(h1:a<=9223372036854775807)(N:0<b):Fn prog 140 [iv a,iv b] (.tup [iv (a/b),iv (a%b)]):=by
 refine bB func140 ntmps140 (λg w d=>?_);refine gq ?_;refine y4 [4,5,6,7,8,9,10,11] [0,0,3,0,0,24,7,127] mo ?_;iterate 8 refine yb ?_
 refine yD ?_;refine gq ?_;refine yn ?_ ?_;all_goals exact zR
def zbA(a b:Int)(h0:0<=a)(h1:a<=9223372036854775807)(H:0<=b)(G:b<=9223372036854775807):Fn prog 95 [iv a,iv b] (iv (gI a b)):=by
 induction hn:b.toNat using Nat.strongRecOn generalizing a b
 rename_i n ih;refine bB func95 ntmps95 (λg w d=>?_);refine gd ?_ ?_<;>intro K
 ·refine gq ?_;all_goals(rw[K,zo4 h0])
 have N:0<b:=aa
 have e0:=vH a (show b≠0 by omega);have e1:=uN a N;refine gc (zlC a b h0 h1 N) ?_;refine gc (ih (a%b).toNat aa b (a%b) H G e0 aa rfl) ?_;all_goals(rw[zo5 h0 N])
def zaz(t:Tm):Fn prog 48 [tmA t] (iv (ckT t)):=by
 refine bB func48 ntmps48 (λg w d=>?_);apply yc;refine zl ?_;refine yk ?_;apply ye;apply kX;apply yc;iterate 3 refine ya ?_
 refine bI 3 ?_;refine yw ?_;iterate 3 refine bE ?_
 iterate 2 refine yw ?_
 iterate 3 refine bE ?_
 iterate 2 refine yw ?_
 iterate 3 refine bE ?_
 refine gf ?_ ?_<;>intro H
 ·refine gq ?_;all_goals(congr 1;unfold ckT;rw[j7 aa])
 refine gc (zbA t.N t.D aa aa aa aa) ?_;refine gd ?_ ?_<;>intro K
 ·refine gq ?_;all_goals(congr 1;unfold ckT;rw[j8 aa,j7 K])
 refine gq ?_;all_goals(congr 1;unfold ckT;rw[j8 aa,j8 aa])
def zaX(l:List Tm)(hl:l.length<=4000000000):Fn prog 70 [tmsA l] (iv (y5 l)):=by
 refine bB func70 ntmps70 (λg w d=>?_);apply yc;refine yk ?_;apply ye;apply yc;refine yo ?_;apply kX;refine zag (ι:=Nat) [6,7] (λ(k:Nat)zz=>(8,iv (k:Int))::zz) [] (λ(k:Nat)zz=>zz) (λ(k:Nat)=>k<=l.length/\y5 l=y5 (l.drop k)) (λ(k:Nat)=>l.length-k) 0 (λk hk=>?_) (hJ:=by exact⟨aa,rfl⟩);obtain⟨G,N⟩:=hk;refine gd ?_ ?_<;>intro xT
 ·have H:=@getX _ l k aa;obtain⟨t,ht,x2⟩:=H;refine gc (zaz t) ?_;refine gd ?_ ?_<;>intro K
  ·refine gq ?_;all_goals(congr 1;rw[N,zcS ht,j8 K])
  refine gq ?_;refine yr (k+1) (hJ:=by exact⟨aa,by rw[N,zcS ht,j7 K]⟩)
 ·refine gq ?_;all_goals(congr 1;rw[N,wT aa];rfl)
def zcQ(n q:Int)(h0:n<=9223372036854775807)(h1:q<=9223372036854775807)(hm:-9223372036854775808<=n):Fn prog 71 [iv n,iv q] (.tup [tmA (tmkT n q),iv (tmkE n q)]):=by
 refine bB func71 ntmps71 (λg w d=>?_);apply yc;refine yP ?_;refine yk ?_;apply ye;apply kX;apply yc;iterate 2 refine ya ?_
 refine bI 2 ?_;refine yw ?_;iterate 2 refine bE ?_
 refine gf ?_ ?_<;>intro K
 ·have hE:tmkE n q=2:=by unfold tmkE;rw[j7 K]
  have N:tmkT n q=tmZ:=by unfold tmkT;rw[j8 aa]
  refine gq ?_;refine yR ty35 ?_ ?_;all_goals(first|exact zE hE|exact zE N)
 refine gd ?_ ?_<;>intro H
 ·have hE:tmkE n q=5:=by unfold tmkE;rw[j8 aa,j7 H]
  have N:tmkT n q=tmZ:=by unfold tmkT;rw[j8 aa]
  refine gq ?_;refine yR ty35 ?_ ?_;all_goals(first|exact zE hE|exact zE N)
 have hg:=zg3 (n:=n) (d:=q) aa;refine gc (zbA n q aa aa aa aa) ?_;refine y4 [7,23,24,25,26,27,28,29] [0,0,3,0,0,24,63,0,255] mo ?_;iterate 7 refine yb ?_
 refine ChM.step rfl rfl rfl (zd (k:=7) zc35) rfl ?_;refine yD ?_;refine bF ?_;apply bD;apply ye;apply yc;iterate 3 refine ya ?_
 refine bI 3 ?_;refine yw ?_;iterate 3 refine bE ?_
 refine gf ?_ ?_<;>intro G
 ·have hE:tmkE n q=4:=by unfold tmkE;rw[j8 aa,j8 aa,j7 G]
  have N:tmkT n q=tmZ:=by unfold tmkT;rw[j8 aa]
  refine gq ?_;refine yR ty35 ?_ ?_;all_goals(first|exact zE hE|exact zE N)
 have hE:tmkE n q=0:=by unfold tmkE;rw[j8 aa,j8 aa,j8 (λh=>by omega)]
 have N:tmkT n q=⟨n/gI n q,q/gI n q⟩:=by unfold tmkT;rw[j7 hE]
 refine gq ?_;refine yR ty35 ?_ ?_;all_goals(first|exact zE hE|exact zE N)
def zaQ(a b:Tm):Fn prog 32 [tmA a,tmA b] (.tup [tmA (addV a b),iv (addE a b)]):=by
 refine bB func32 ntmps32 (λg w d=>?_);refine gq ?_;refine yH tmE [⟨_,_⟩,⟨_,_⟩] ?_;refine yY (kY (k:=9) rfl) ?_;refine gc (zaX [a,b] ah) ?_;refine gd ?_ ?_<;>intro K
 ·have hE:addE a b=y5 [a,b]:=by unfold addE;rw[j8 K]
  have G:addV a b=tmZ:=by unfold addV;rw[j8 K]
  refine gq ?_;refine yR ty35 ?_ ?_;all_goals(first|exact zE hE|exact zE G|(unfold addE;rw[j7 K];done)|(unfold addV;rw[j7 K];done)|(unfold addV;rw[j7 K];rfl))
 have H:=ziW K;have b1:=zfj H.1;have b2:=zfj H.2;have m1:=mulB b1.1 b1.2.1 b2.2.2.1 b2.2.2.2.1;have m2:=mulB b2.1 b2.2.1 b1.2.2.1 b1.2.2.2.1;have m3:=mulB b1.2.2.1 b1.2.2.2.1 b2.2.2.1 b2.2.2.2.1;have m4:=mulP b1.2.2.2.2.1 b2.2.2.2.2.1;refine gc (zcQ (a.N*b.D+b.N*a.D) (a.D*b.D) aa aa aa) ?_;refine yR ty35 ?_ ?_;all_goals(first|exact zE hE|exact zE G|(unfold addE;rw[j7 K];done)|(unfold addV;rw[j7 K];done)|(unfold addV;rw[j7 K];rfl))
def zcx(a b:Tm):Fn prog 99 [tmA a,tmA b] (.tup [tmA (subV a b),iv (subE a b)]):=by
 refine bB func99 ntmps99 (λg w d=>?_);refine gq ?_;refine yH tmE [⟨_,_⟩,⟨_,_⟩] ?_;refine yY (kY (k:=9) rfl) ?_;refine gc (zaX [a,b] ah) ?_;refine gd ?_ ?_<;>intro K
 ·have hE:subE a b=y5 [a,b]:=by unfold subE;rw[j8 K]
  have G:subV a b=tmZ:=by unfold subV;rw[j8 K]
  refine gq ?_;refine yR ty35 ?_ ?_;all_goals(first|exact zE hE|exact zE G|(unfold subE;rw[j7 K];done)|(unfold subV;rw[j7 K];done)|(unfold subV;rw[j7 K];rfl))
 have H:=ziW K;have b1:=zfj H.1;have b2:=zfj H.2;have m1:=mulB b1.1 b1.2.1 b2.2.2.1 b2.2.2.2.1;have m2:=mulB b2.1 b2.2.1 b1.2.2.1 b1.2.2.2.1;have m3:=mulB b1.2.2.1 b1.2.2.2.1 b2.2.2.1 b2.2.2.2.1;have m4:=mulP b1.2.2.2.2.1 b2.2.2.2.2.1;refine gc (zcQ (a.N*b.D-b.N*a.D) (a.D*b.D) aa aa aa) ?_;refine yR ty35 ?_ ?_;all_goals(first|exact zE hE|exact zE G|(unfold subE;rw[j7 K];done)|(unfold subV;rw[j7 K];done)|(unfold subV;rw[j7 K];rfl))
set_option maxRecDepth 9999 in
def zgc(a b c q:Int)(a0:0<=a)(a1:a<=1099511627776)(b0:1<=b)(b1:b<=1099511627776)(c0:0<=c)(c1:c<=1099511627776)(d0:1<=q)(d1:q<=1099511627776):Fn prog 112 [iv a,iv b,iv c,iv q] (.tup [tmA (tmsV a b c q),iv (tmsE a b c q)]):=by
 have hg:=zg3 (n:=a) (d:=q) aa;have hh:=zg3 (n:=c) (d:=b) aa;have qa:=uL a0 (vV hg);have qb:=uL (show 0<=b by omega) (vV hh);have qc:=uL c0 (vV hh);have qd:=uL (show 0<=q by omega) (vV hg);have ra:=x3 (gI a q) a0;have rb:=x3 (gI c b) (show 0<=b by omega);have rc:=x3 (gI c b) c0;have rd:=x3 (gI a q) (show 0<=q by omega);have hE:tmsE a b c q=if bigQ (a/gI a q) (b/gI c b) (c/gI c b) (q/gI a q)then 4 else tmkE (a/gI a q*(c/gI c b)) (b/gI c b*(q/gI a q)):=rfl
 have hV:tmsV a b c q=if bigQ (a/gI a q) (b/gI c b) (c/gI c b) (q/gI a q)then tmZ else tmkT (a/gI a q*(c/gI c b)) (b/gI c b*(q/gI a q)):=rfl
 rw[hE,hV];refine bB func112 ntmps112 (λg w d=>?_);refine gc (zbA a q aa aa aa aa) ?_;refine zf (zbA c b aa aa aa aa) ?_;refine yC ?_;apply ye;refine zY [⟨0,18,iv a,[]⟩,⟨1,19,iv (gI a q),[]⟩,⟨2,20,iv (a/gI a q),[1,0]⟩,⟨3,21,iv q,[]⟩,⟨4,22,iv (gI a q),[]⟩,⟨5,23,iv (q/gI a q),[4,3]⟩,⟨6,24,iv c,[]⟩,⟨7,25,iv (gI c b),[]⟩,⟨8,26,iv (c/gI c b),[7,6]⟩,⟨9,27,iv b,[]⟩,⟨10,28,iv (gI c b),[]⟩,⟨11,29,iv (b/gI c b),[10,9]⟩] [(12,[1,0,2]),(13,[4,3,2,1,0,12,5]),(14,[12,7,6,5,4,3,2,1,0,13,8]),(15,[13,12,10,9,8,7,6,5,4,3,2,1,0,14,11])] (let T:=[(8,.ptr 8 0 0 0),(10,iv (gI a q)),(11,iv (gI c b))];let H:=[(8,.box [iv 0,iv 0] 35)];λj=>match j with|0=>⟨(0,iv (a))::(1,iv (b))::(2,iv (c))::(3,iv (q))::T,H⟩|1=>⟨(0,iv (a/gI a q))::(1,iv (b))::(2,iv (c))::(3,iv (q))::T,H⟩|2=>⟨(0,iv (a/gI a q))::(1,iv (b))::(2,iv (c))::(3,iv (q/gI a q))::T,H⟩|3=>⟨(0,iv (a/gI a q))::(1,iv (b))::(2,iv (c/gI c b))::(3,iv (q/gI a q))::T,H⟩|_=>⟨(0,iv (a/gI a q))::(1,iv (b/gI c b))::(2,iv (c/gI c b))::(3,iv (q/gI a q))::T,H⟩) mo (zP (yh)) (λj hj=>?_) ⟨λβ=>Co2 rfl (yW (bA (zbZ rfl)) rfl rfl),λβ=>Co2 rfl (yW (bA (zbZ rfl)) rfl rfl),λβ=>Co2 rfl (yW (bA (zbZ rfl)) rfl rfl),λβ=>Co2 rfl (yW (bA (zbZ rfl)) rfl rfl),trivial⟩ ?_
 ·rcases j with _|_|_|_|_|j
  ·exact yE
  ·exact yE
  ·exact yE
  ·exact yE
  ·exact yE
  ·exact absurd (show j+5<=4 from hj) aa
 iterate 2 apply ye
 generalize a/gI a q=a2 at*
 generalize b/gI c b=b2 at*
 generalize c/gI c b=c2 at*
 generalize q/gI a q=d2 at*
 apply yd;iterate 2 refine ya ?_
 refine bI 2 ?_;refine yw ?_;iterate 4 refine bE ?_
 iterate 2 refine yw ?_
 iterate 8 refine bE ?_
 refine gf ?_ ?_<;>intro K
 ·have N:bigQ a2 b2 c2 d2:=K;refine gq ?_;refine yR ty35 ?_ ?_;all_goals(first|(rw[j8 N];done)|(rw[j8 N];rfl)|(rw[j7 N];done)|(rw[j7 N];rfl))
 have N:¬bigQ a2 b2 c2 d2:=λh=>by unfold bigQ at h;omega
 have z1:0<=a2*c2:=uU qa qc
 have z2:a2*c2<=1099511627776:=by
  by_cases h:0<a2
  ·exact zkn h ac (λG=>N (.inl ⟨h,G⟩))
  ·rw[show a2=0 by omega];simp
 have z3:b2*d2<=1048576:=by
  by_cases h:0<d2
  ·rw[Int.mul_comm];exact zkn h ac (λG=>N (.inr ⟨h,G⟩))
  ·rw[show d2=0 by omega];simp
 have xT:-9223372036854775808<=a2*c2:=aa
 have x2:a2*c2<=9223372036854775807:=aa
 have x1:b2*d2<=9223372036854775807:=aa
 have z4:0<=b2*d2:=uU qb qd;refine gc (zcQ _ _ x2 x1 xT) ?_;refine yR ty35 ?_ ?_;all_goals(first|(rw[j8 N];done)|(rw[j8 N];rfl)|(rw[j7 N];done)|(rw[j7 N];rfl))
def zfz(a b:Tm):Fn prog 66 [tmA a,tmA b] (.tup [tmA (mulV a b),iv (mulE a b)]):=by
 refine bB func66 ntmps66 (λg w d=>?_);refine gq ?_;refine yH tmE [⟨_,_⟩,⟨_,_⟩] ?_;refine yY (kY (k:=9) rfl) ?_;refine gc (zaX [a,b] ah) ?_;refine gd ?_ ?_<;>intro K
 ·have hE:mulE a b=y5 [a,b]:=by unfold mulE;rw[j8 K]
  have G:mulV a b=tmZ:=by unfold mulV;rw[j8 K]
  refine gq ?_;refine yR ty35 ?_ ?_;all_goals(first|exact zE hE|exact zE G|(unfold mulE;rw[j7 K];done)|(unfold mulV;rw[j7 K];done)|(unfold mulV;rw[j7 K];rfl))
 have H:=ziW K;have b1:=zfj H.1;have b2:=zfj H.2;have m1:=mulB b1.1 b1.2.1 b2.2.2.1 b2.2.2.2.1;have m2:=mulB b2.1 b2.2.1 b1.2.2.1 b1.2.2.2.1;have m3:=mulB b1.2.2.1 b1.2.2.2.1 b2.2.2.1 b2.2.2.2.1;have m4:=mulP b1.2.2.2.2.1 b2.2.2.2.2.1;refine gc (zgc a.N a.D b.N b.D b1.1 b1.2.1 b1.2.2.2.2.1 aa b2.1 b2.2.1 b2.2.2.2.2.1 aa) ?_;refine yR ty35 ?_ ?_;all_goals(first|exact zE hE|exact zE G|(unfold mulE;rw[j7 K];done)|(unfold mulV;rw[j7 K];done)|(unfold mulV;rw[j7 K];rfl))
def zbB(a b:Tm):Fn prog 143 [tmA a,tmA b] (.tup [iv (cmpV a b),iv (y5 [a,b])]):=by
 refine bB func143 ntmps143 (λg w d=>?_);refine gq ?_;refine yH tmE [⟨_,_⟩,⟨_,_⟩] ?_;refine yY (kY (k:=10) rfl) ?_;refine gc (zaX [a,b] ah) ?_;refine gd ?_ ?_<;>intro N
 ·have K:cmpV a b=0:=by unfold cmpV;rw[j8 N]
  refine gq ?_;refine yn ?_ ?_;all_goals(first|exact zE K|rfl|exact zE N)
 have H:=ziW N;have b1:=zfj H.1;have b2:=zfj H.2;have m1:=mulB b1.1 b1.2.1 b2.2.2.1 b2.2.2.2.1;have m2:=mulB b2.1 b2.2.1 b1.2.2.1 b1.2.2.2.1;have m3:=mulB b1.2.2.1 b1.2.2.2.1 b2.2.2.1 b2.2.2.2.1;have m4:=mulP b1.2.2.2.2.1 b2.2.2.2.2.1;refine gd ?_ ?_<;>intro G
 ·have K:cmpV a b=-1:=by unfold cmpV;rw[j7 N,j7 aa]
  refine gq ?_;refine yn ?_ ?_;all_goals(first|exact zE K|rfl|exact zE N)
 refine gd ?_ ?_<;>intro xT
 ·have K:cmpV a b=1:=by unfold cmpV;rw[j7 N,j8 aa,j7 aa]
  refine gq ?_;refine yn ?_ ?_;all_goals(first|exact zE K|rfl|exact zE N)
 have K:cmpV a b=0:=by unfold cmpV;rw[j7 N,j8 aa,j8 aa]
 refine gq ?_;refine yn ?_ ?_;all_goals(first|exact zE K|rfl|exact zE N)
theorem znI(l:List Tm)(hl:l.length<=4000000000):Fn prog 317 [tmsA l] (.tup [tmA (sumV l),iv (sumE l)]):=by
 refine bB func317 ntmps317 (λg w d=>?_);refine gc (zaX l hl) ?_;refine gd ?_ ?_<;>intro N
 ·have hE:sumE l=y5 l:=by unfold sumE;rw[j8 N]
  have H:sumV l=tmZ:=by unfold sumV;rw[j8 N]
  refine gq ?_;refine yR ty35 ?_ ?_;all_goals(first|exact zE hE|exact zE H)
 have hE:sumE l=(sumF ⟨0,1⟩ l).2:=by unfold sumE;rw[j7 N]
 have H:sumV l=(sumF ⟨0,1⟩ l).1:=by unfold sumV;rw[j7 N]
 apply yf;apply yc;refine ya ?_;refine yP ?_;refine bF ?_;apply bD;apply ye;apply yc;refine yo ?_;apply kX;refine zag (ι:=Nat×Tm) [2,5,16,17] (λ(p:Nat×Tm)zz=>(18,iv (p.1:Int))::zz) [2] (λ(p:Nat×Tm)zz=>(5,.box (tmE p.2) 35)::zz) (λ(p:Nat×Tm)=>p.1<=l.length/\sumF ⟨0,1⟩ l=sumF p.2 (l.drop p.1)) (λ(p:Nat×Tm)=>l.length-p.1) (0,⟨0,1⟩) (λp hk=>?_) (hJ:=by exact⟨ah,rfl⟩);obtain⟨k,s⟩:=p;obtain⟨x2,K⟩:=hk;dsimp only at*
 refine gd ?_ ?_<;>intro x1
 ·have xT:=@getX _ l k aa;obtain⟨t,ht,x0⟩:=xT;refine gc (zaQ s t) ?_;refine gd ?_ ?_<;>intro G
  ·have hS:=zkm (s:=s) ht;rw[j8 G]at hS;rw[K,hS]at hE H;refine gq ?_;refine yR ty35 ?_ ?_;all_goals(first|exact zE hE|exact zE H)
  refine gq ?_;refine yr ((k+1,addV s t)) (hJ:=by exact⟨am,by rw[K,zkm ht,j7 G]⟩)
 ·rw[K,wT aa]at hE H;refine gq ?_;refine yR ty35 ?_ ?_;all_goals(first|exact zE hE|exact zE H)
end
section
variable{V:List Nu}{k:Nat}{x:Nu}
structure EvK(e:Ev):Prop where
 a:ckT e.At=0
 d:ckT e.Dur=0
 n:¬e.Dur.N=0
 p:PtV e.P
 r:e.R=true->e.P=⟨0,0,0⟩
 s:0<=e.S
 ps:0<=e.Ps
def zCq(h:VoK V)(hx:V[k]? =some x):EvK (evA V k x):=by
 have hk:=h.k x (j6 hx);exact⟨ziY (h.uq k),ziY hk.uq,λe=>by have:=(zuB x.u).1 e;have:=hk.u.1;omega,hk.p,hk.r,hk.s.1,hk.ps.1⟩
def zup:tq 0=⟨0,1⟩:=ac
def C_qadd{a b c:Int}(N:Uq a)(K:Uq b)(h:a+b=c)(G:c<=1000000000):Fn prog 32 [tmA (tq a),tmA (tq b)] (.tup [tmA (tq c),iv 0]):=by
 obtain⟨h1,H⟩:=znP N K aa;have:=zaQ (tq a) (tq b);rw[h1,H,h]at this;exact this
def znJ{a b c:Int}(N:Uq a)(K:Uq b)(h:a-b=c)(G:0<=c):Fn prog 99 [tmA (tq a),tmA (tq b)] (.tup [tmA (tq c),iv 0]):=by
 obtain⟨h1,H⟩:=zzI N K aa;have:=zcx (tq a) (tq b);rw[h1,H,h]at this;exact this
def cmI3(a b:Int):Int:=if a<b then-1 else if b<a then 1 else 0
def zzx{a b:Int}(N:Uq a)(K:Uq b):Fn prog 143 [tmA (tq a),tmA (tq b)] (.tup [iv (cmI3 a b),iv 0]):=by
 have:=zbB (tq a) (tq b);rw[zg8 N K,zmH N K]at this;exact this
def zlD(h:VoK V)(hx:V[k]? =some x):Fn prog 32 [tmA (evA V k x).At,tmA (evA V k x).Dur] (.tup [tmA (tq (pf (usV V) (k+1))),iv 0]):=
 C_qadd (h.uq k) (h.k x (j6 hx)).uq (zxl hx).symm (by have:=(h.pf (k+1)).2;omega)
attribute [local irreducible] ckT addE addV tq
def zgd:Fn prog 31 [] (tmA (tq 0)):=by
 refine bB func31 ntmps31 (λg w d=>?_);refine gq ?_;refine bJ (.one (.cellA rfl rfl rfl rfl ty35 (kZ ?_)));all_goals exact zE zup
def zmE(e:Ev)(h:EvK e):Fn prog 69 [.agg (evE e)] (iv 0):=by
 have hL:[e.At,e.Dur].length=2:=rfl;refine bB func69 ntmps69 (λg w d=>?_);refine gq ?_;refine yH tmE [e.At,e.Dur] ?_;refine yY (kY (k:=11) rfl) ?_;refine yC ?_;apply kX;refine y9 [1,11,12] (λk zz=>(13,iv (k:Int))::zz) [1] (λ_ zz=>zz) ([e.At,e.Dur].length) (λk hk=>?_);refine gd ?_ ?_<;>intro x0
 ·obtain⟨t,ht,hc⟩:∃t,[e.At,e.Dur][k]? =some t/\ckT t=0:=by
   have:k=0\/k=1:=aa
   rcases this with rfl|rfl
   ·exact⟨_,rfl,h.a⟩
   ·exact⟨_,rfl,h.d⟩
  have w2:[e.At,e.Dur][(k:Int).toNat]? =some t:=ao ht
  refine gc (zaz t) ?_;refine gd ?_ ?_<;>intro N
  ·exact absurd hc N
  refine gq ?_;refine yr (k+1) (hI:=kW)
 ·refine gd ?_ ?_<;>intro K
  ·exact absurd K h.n
  refine gd ?_ ?_<;>intro H
  ·apply yc;(iterate 3 refine ya ?_);refine ya (hs:=by exact zcK (xs:=piE e.P) (ys:=piE ⟨0,0,0⟩) (zpd _ _) inferInstance TyK.h rfl rfl rfl rfl rfl) ?_;refine gd ?_ ?_<;>intro G
   ·exact absurd (h.r H) G
   apply yf;apply ye;apply yc;(iterate 3 refine ya ?_);refine bI 3 ?_;refine yw ?_;(iterate 3 refine bE ?_);refine gf ?_ ?_<;>intro xT
   ·exact absurd xT (by have:=h.s;have:=h.ps;omega)
   refine gq ?_;all_goals exact zR
  ·refine gc (zaG e.P h.p) ?_;refine gd ?_ ?_<;>intro x2
   ·exact absurd x2 ac
   apply yf;apply ye;apply yc;(iterate 3 refine ya ?_);refine bI 3 ?_;refine yw ?_;(iterate 3 refine bE ?_);refine gf ?_ ?_<;>intro x1
   ·exact absurd x1 (by have:=h.s;have:=h.ps;omega)
   refine gq ?_;all_goals exact zR
def zbW(V:List Nu)(h:VoK V):Fn prog 30 [evsA (evL V)] (.tup [iv 0,iv 0]):=by
 have hl:=h.l;have hn:=zj V;refine bB func30 ntmps30 (λg w d=>?_);refine gd ?_ ?_<;>intro N
 ·exact absurd N aa
 refine gq ?_;refine zf (zgd ..) ?_;refine yP ?_;refine bF ?_;apply bD;apply ye;apply yc;refine yo ?_;apply kX;refine y9 [4,14,15] (λk zz=>(16,iv (k:Int))::zz) [] (λk zz=>(4,.box (tmE (tq (pf (usV V) k))) 35)::zz) V.length (λk hk=>?_);refine gd ?_ ?_<;>intro xT
 ·obtain⟨x,hx⟩:∃x,V[k]? =some x:=⟨_,lgg aa⟩;have he:=zdJ hx;have x2:(evL V)[(k:Int).toNat]? =some (evA V k x):=ao he
  refine gc (zmE _ (zCq h hx)) ?_;refine gd ?_ ?_<;>intro K
  ·exact absurd K ac
  refine gd ?_ ?_<;>intro H
  ·exact absurd rfl H
  refine gc (zlD h hx) ?_;refine gd ?_ ?_<;>intro G
  ·exact absurd rfl G
  refine gq ?_;refine yr (k+1) (hI:=kW)
 ·refine gq ?_;refine yn ?_ ?_;all_goals exact zR
def zcR(V:List Nu)(h:VoK V):Fn prog 14 [evsA (evL V)] (.tup [tmA (tq (usV V).sum),iv 0]):=by
 have hl:=h.l;have hn:=zj V;refine bB func14 ntmps14 (λg w d=>?_);refine gc (zbW V h) ?_;refine gd ?_ ?_<;>intro K
 ·exact absurd K ac
 refine gd ?_ ?_<;>intro H
 ·obtain rfl:V=[]:=jT aa;apply yc;refine gc (zgd ..) ?_;refine yR ty35 ?_ ?_;all_goals exact zR
 obtain⟨x,hx⟩:∃x,V[V.length-1]? =some x:=⟨_,lgg aa⟩;have he:=zdJ hx;have G:(evL V)[(((evL V).length:Int)-1).toNat]? =some (evA V (V.length-1) x):=by rw[hn,show((V.length:Int)-1).toNat=V.length-1 by omega];exact he
 have N:=zlD h hx;rw[show V.length-1+1=V.length by omega,zrZ]at N;refine gc N ?_;refine yR ty35 ?_ ?_;all_goals exact zR
end
section
variable{k:Nat}{l:List Sg}{s:Sg}
def tmd(s:Sg):Bool:=decide (s.Kind=1)||decide (s.Kind=2)||decide (s.Kind=4)
def ntI(l:List Sg)(k:Nat):List Int:=((List.range k).filter λi=>tmd (l.getD i default)).map λ(i:Nat)=>(i:Int)
def zCr(l:List Sg):[]=ntI l 0:=rfl
def zzy(h:l[k]? =some s)(ht:tmd s=true):ntI l k++[(k:Int)]=ntI l (k+1):=by
 unfold ntI;rw[wR,uO,kM];simp[jB,h,ht]
def zzz(h:l[k]? =some s)(ht:tmd s=false):ntI l k=ntI l (k+1):=by
 unfold ntI;rw[wR,uO,kM];simp[jB,h,ht]
def zlE(l:List Sg)(k:Nat):(ntI l k).length<=k:=by
 unfold ntI;rw[jD];have:=uA (λi=>tmd (l.getD i default)) (List.range k);rw[List.length_range]at this;exact this
attribute [local irreducible] ntI
def zbC(l:List Ev)(hl:l.length<=4000):Fn prog 11 [evsA l,evsA l] (.bool true):=by
 refine bB func11 ntmps11 (λg w d=>?_);refine gd ?_ ?_<;>intro N
 ·exact absurd rfl N
 apply yf;apply ye;apply yc;refine yk ?_;apply kX;refine y9 [0,1] (λk zz=>(5,iv (k:Int))::zz) [] (λ_ zz=>zz) l.length (λk hk=>?_);refine gd ?_ ?_<;>intro G
 ·have K:=@getX _ l k aa;obtain⟨x,hx,xT⟩:=K;refine gq ?_;refine y4 [17,18,19,20,21,22,23,24,25] [0,0,3,7,0,0,48,112,255] mo ?_;iterate 8 refine yb ?_
  refine yb ?_ (hs:=by exact zcK (zuD _ _) inferInstance TyK.h rfl rfl rfl rfl rfl);refine yD ?_;refine gd ?_ ?_<;>intro H
  ·exact absurd rfl H
  refine gq ?_;refine yr (k+1) (hI:=kW)
 ·refine gq ?_;all_goals exact zR
def zfi(s:Sg):Fn prog 110 [sgA s] (.bool (tmd s)):=by
 refine bB func110 ntmps110 (λg w d=>?_);apply yc;refine zl ?_;refine ya ?_;apply yp;iterate 3 refine ya ?_
 refine bI 3 ?_;refine yw ?_;iterate 3 refine bE ?_
 iterate 2 refine yw ?_
 iterate 3 refine bE ?_
 refine ge ?_;all_goals rfl
def zc7(nm:ByteArray)(l:List Sg)(hl:l.length<=4000):Fn prog 64 [.agg [.str nm,sgsA l]] (yj (ntI l l.length)):=by
 refine bB func64 ntmps64 (λg w d=>?_);apply yc;refine zl ?_;refine ya ?_;apply yp;refine yk ?_;iterate 2 apply ye
 refine yl (yz intE 3 1 3 30 rfl rfl) ?_;apply yd;refine ya ?_;refine yo ?_;apply kX;have hz:=zCr l;refine y9 [3,7,8] (λk zz=>(9,iv (k:Int))::zz) [] (λk zz=>(30,.row intE (ntI l k) 3 1)::zz) l.length (λk hk=>?_);refine gd ?_ ?_<;>intro G
 ·have K:=@getX _ l k aa;obtain⟨s,hs,xT⟩:=K;have x2:=zlE l k;refine gc (zfi s) ?_;refine gd ?_ ?_<;>intro N
  ·have H:=zzy hs N;refine gq ?_;refine yH intE [_] ?_;refine gq ?_;refine yr (k+1) (hI:=kW)
  ·have H:=zzz hs N;refine gq ?_;refine yr (k+1) (hI:=kW)
 ·obtain rfl:k=l.length:=aa
  apply bH;apply yc;refine yC ?_;refine bC ?_;refine yi (kY (k:=30) rfl) ?_;refine gq ?_;all_goals rfl
end
section
structure Sf where
 v:Bool
 p:Bool
 a:Bool
 c:Bool
 s:Bool
 o:Bool
 l:Bool
 m:Bool
 k:Bool
 n:Bool
 d:Bool
 f:Bool
 deriving DecidableEq
def sfE:Sf->List AV:=λx=>[.bool x.v,.bool x.p,.bool x.a,.bool x.c,.bool x.s,.bool x.o,.bool x.l,.bool x.m,.bool x.k,.bool x.n,.bool x.d,.bool x.f]
def ufS(k:Int):Sf:=
 if k=1 then⟨true,true,true,true,false,false,false,false,false,false,false,false⟩
 else if k=2 then⟨true,false,false,false,false,false,false,false,false,false,false,false⟩
 else if k=4 then⟨false,true,true,true,true,true,true,false,false,false,false,false⟩
 else if k=5 then⟨false,false,false,false,false,false,false,true,true,false,false,false⟩
 else if k=6 then⟨false,false,false,false,false,false,false,false,false,true,true,false⟩
 else if k=7 then⟨false,false,false,false,false,false,false,false,false,false,false,true⟩
 else if k=8\/k=10 then⟨false,false,false,false,false,false,false,false,false,true,false,false⟩
 else⟨false,false,false,false,false,false,false,false,false,false,false,false⟩
def clS(k:Int):Int:=if k=1\/k=2\/k=4 then 1 else if k=3 then 2 else if k=5\/k=6\/k=9\/k=10 then 3 else if k=7\/k=8\/k=11\/k=12 then 4 else 0
def ktV(s:Sg)(f:Sf):Sg:=⟨s.Kind,if f.v=true then s.Value else 0,if f.p=true then s.Place else 0,if f.a=true then s.Acc else 0,if f.c=true then s.Color else false,if f.s=true then s.Stem else 0,if f.o=true then s.Oblique else false,if f.l=true then s.Last else false,if f.m=true then s.Mens else⟨0,0,0,0⟩,if f.k=true then s.Stroke else false,if f.n=true then s.N else 0,if f.d=true then s.D else 0,if f.f=true then s.CStep else 0,if f.f=true then s.CLine else 0⟩
def wnQ(n a b:Int):Bool:=decide (n≥a)&&decide (n<=b)
structure RgK(x:Sg)(f:Sf):Prop where
 v:f.v=true->1<=x.Value/\x.Value<=8
 p:f.p=true->-4<=x.Place/\x.Place<=12
 a:f.a=true->-1<=x.Acc/\x.Acc<=2
 s:f.s=true->0<=x.Stem/\x.Stem<=3
 d:f.d=true->(1<=x.N/\x.N<=100)/\(1<=x.D/\x.D<=100)
 c:f.f=true->(x.CStep=0\/x.CStep=3\/x.CStep=4)/\1<=x.CLine/\x.CLine<=5
 y:x.Kind=8->0<=x.N/\x.N<=2
 r:x.Kind=10->2<=x.N/\x.N<=4
structure SgK(x:Sg):Prop where
 k:1<=x.Kind/\x.Kind<=12
 f:x=ktV x (ufS x.Kind)
 m:(ufS x.Kind).m=true->ckM x.Mens=0
 g:RgK x (ufS x.Kind)
 o:¬(x.Oblique=true/\x.Last=true)
end
section
structure Sc where
 F:Int
 T:Int
 M:Mn
def scE:Sc->List AV:=λs=>[iv s.F,iv s.T,iv s.M.Max,iv s.M.Mod,iv s.M.Tem,iv s.M.Pro,iv 0,iv 0]
abbrev scA(s:Sc):AV:=.agg (scE s)
abbrev scsA(l:List Sc):AV:=.sl scE l
structure Ss where
 m:Mn
 kn:Bool
 s:Sc
 L:List Sc
def zcy(k:Nat)(x:Sg)(a:Ss):Ss:=
 if clS x.Kind=1 then⟨a.m,a.kn,⟨if a.s.F<0 then k else a.s.F,(k:Int)+1,a.s.M⟩,a.L⟩
 else if clS x.Kind=2 then⟨a.m,a.kn,⟨a.s.F,(k:Int)+1,a.s.M⟩,a.L⟩
 else if clS x.Kind=3 then⟨if x.Kind=5 then x.Mens else a.m,a.kn||decide (x.Kind=5),⟨-1,0,if x.Kind=5 then x.Mens else a.m⟩,if 0<=a.s.F then a.L++[a.s]else a.L⟩
 else a
def scS(l:List Sg):Nat->Ss
 |0=>⟨⟨0,0,0,0⟩,false,⟨-1,0,⟨0,0,0,0⟩⟩,[]⟩
 |k+1=>match l[k]? with
  |some x=>zcy k x (scS l k)
  |none=>scS l k
def scV(l:List Sg):List Sc:=if 0<=(scS l l.length).s.F then(scS l l.length).L++[(scS l l.length).s]else(scS l l.length).L
def ScOk(l:List Sg):Prop:=∀(k:Nat)(x:Sg),l[k]? =some x->(clS x.Kind=1->(scS l k).kn=true)/\(clS x.Kind=2->0<=(scS l k).s.F)/\x.Color=false
def scX(l:List Sg):List (List AV):=(scV l).map λs=>[scA s]
section
variable{l:List Sg}{k:Nat}{x:Sg}
variable{kn':Bool}{m':Mn}{α:Type}
def znK(h:l[k]? =some x):scS l (k+1)=zcy k x (scS l k):=by rw[scS,h]
def zrI(k:Nat)(x:Sg)(a:Ss):a.L<+:(zcy k x a).L:=by
 unfold zcy;split
 ·exact vJ
 ·split
  ·exact vJ
  ·split
   ·dsimp only;split
    ·exact List.prefix_append _ _
    ·exact vJ
   ·exact vJ
def zrJ(l:List Sg)(k:Nat):∀d,(scS l k).L<+:(scS l (k+d)).L
 |0=>vJ
 |d+1=>by
  refine(zrJ l k d).trans ?_;rw[←uB,scS];cases l[k+d]? with
  |none=>exact vJ
  |some x=>exact zrI _ _ _
def zzA(h:k<=l.length):(scS l k).L<+:scV l:=by
 have h1:=zrJ l k (l.length-k);rw[show k+(l.length-k)=l.length by omega]at h1;refine h1.trans ?_;unfold scV;split
 ·exact List.prefix_append _ _
 ·exact vJ
def zrK{p l:List α}{x:α}(h:p++[x]<+:l):l[p.length]? =some x:=by
 obtain⟨t,rfl⟩:=h;simp
def zHL(h:l[k]? =some x)(N:clS x.Kind=3)(K:0<=(scS l k).s.F):(scX l)[(scS l k).L.length]? =some [scA (scS l k).s]:=by
 have hk:=(j5.1 h).1;have h1:=zzA (l:=l) (k:=k+1) aa;rw[znK h,zcy,j8 aa,j8 aa,j7 N]at h1;dsimp only at h1;rw[j7 K]at h1;unfold scX;rw[j9,zrK h1];rfl
def zCs(N:0<=(scS l l.length).s.F):(scX l)[(scS l l.length).L.length]? =some [scA (scS l l.length).s]:=by
 unfold scX scV;rw[j7 N];simp
def zrL(N:0<=(scS l l.length).s.F):(scX l).length=(scS l l.length).L.length+1:=by unfold scX scV;rw[j7 N];simp
def zrM(N:¬0<=(scS l l.length).s.F):(scX l).length=(scS l l.length).L.length:=by unfold scX scV;rw[j8 N];simp
def zCt(h:l[k]? =some x)(N:clS x.Kind=1):scS l (k+1)=⟨(scS l k).m,(scS l k).kn,⟨if(scS l k).s.F<0 then(k:Int)else(scS l k).s.F,(k:Int)+1,(scS l k).s.M⟩,(scS l k).L⟩:=by
 rw[znK h,zcy,j7 N]
def zCu(h:l[k]? =some x)(N:clS x.Kind=2):scS l (k+1)=⟨(scS l k).m,(scS l k).kn,⟨(scS l k).s.F,(k:Int)+1,(scS l k).s.M⟩,(scS l k).L⟩:=by
 rw[znK h,zcy,j8 aa,j7 N]
def zuq(h:l[k]? =some x)(N:clS x.Kind=3)(K:(x.Kind=5/\m'=x.Mens/\kn'=true)\/(¬x.Kind=5/\m'=(scS l k).m/\kn'=(scS l k).kn)){L':List Sc}(H:(0<=(scS l k).s.F/\L'=(scS l k).L++[(scS l k).s])\/(¬0<=(scS l k).s.F/\L'=(scS l k).L)):scS l (k+1)=⟨m',kn',⟨-1,0,m'⟩,L'⟩:=by
 rw[znK h,zcy,j8 aa,j8 aa,j7 N];rcases K with⟨a,rfl,rfl⟩|⟨a,rfl,rfl⟩<;>rcases H with⟨b,rfl⟩|⟨b,rfl⟩<;>simp[a,b]
def zCv(h:l[k]? =some x)(h1:¬clS x.Kind=1)(N:¬clS x.Kind=2)(K:¬clS x.Kind=3):scS l (k+1)=scS l k:=by
 rw[znK h,zcy,j8 h1,j8 N,j8 K]
end
structure ScR(n:Nat)(s:Sc):Prop where
 f:0<=s.F
 t:s.F<s.T
 n:s.T<=n
def zo2(l:List Sg):∀k,k<=l.length->(∀s∈(scS l k).L,ScR k s)/\(0<=(scS l k).s.F->ScR k (scS l k).s)/\(scS l k).s.F<=k/\-1<=(scS l k).s.F/\(scS l k).L.length<=k
 |0,_=>⟨λs h=>by simp[scS]at h,λh=>by simp[scS]at h,by simp[scS],by simp[scS],by simp[scS]⟩
 |k+1,h=>by
  obtain⟨i1,i2,i3,i5,i4⟩:=zo2 l k aa;have up:∀s,ScR k s->ScR (k+1) s:=λs q=>⟨q.f,q.t,by have:=q.n;omega⟩
  obtain⟨x,hx⟩:∃x,l[k]? =some x:=⟨_,lgg aa⟩;by_cases c1:clS x.Kind=1
  ·rw[zCt hx c1];dsimp only;refine⟨λs q=>up s (i1 s q),λ_=>?_,?_,?_,aa⟩
   ·split
    ·exact⟨am,am,am⟩
    ·exact⟨am,am,am⟩
   ·split<;>omega
   ·split<;>omega
  by_cases c2:clS x.Kind=2
  ·rw[zCu hx c2];dsimp only;refine⟨λs q=>up s (i1 s q),λq=>?_,aa,aa,aa⟩;have:=i2 q;exact⟨q,by have q1:=this.t;have q2:=this.n;dsimp only;omega,am⟩
  by_cases c3:clS x.Kind=3
  ·rw[znK hx,zcy,j8 c1,j8 c2,j7 c3];dsimp only;refine⟨λs q=>?_,λq=>absurd q ac,aa,aa,?_⟩
   ·split at q
    ·rename_i N;rcases w9.1 q with q|q
     ·exact up s (i1 s q)
     ·rw[w6.1 q];exact up _ (i2 N)
    ·exact up s (i1 s q)
   ·split
    ·rw[jJ,uI];omega
    ·omega
  ·rw[zCv hx c1 c2 c3];exact⟨λs q=>up s (i1 s q),λq=>up _ (i2 q),aa,aa,aa⟩
def zrN(l:List Sg):∀s∈scV l,ScR l.length s:=by
 obtain⟨i1,i2,-⟩:=zo2 l l.length (jG _);intro s hs;unfold scV at hs;split at hs
 ·rename_i h;rcases w9.1 hs with q|q
  ·exact i1 s q
  ·rw[w6.1 q];exact i2 h
 ·exact i1 s hs
theorem zeO(l:List Sg):(scV l).length<=l.length+1:=by
 obtain⟨-,-,-,-,i4⟩:=zo2 l l.length (jG _);unfold scV;split
 ·rw[jJ,uI];omega
 ·omega
end
section
attribute [local irreducible] FnW FnOW FnP FnD
attribute [local irreducible] bsB nkB lwB dcB nmQ
def zge(s:ByteArray)(hs:s.size<=1000000):Fn prog 92 [.str s] (.bool (nmQ (bsB s))):=by
 have N:=zzu s;refine bB func92 ntmps92 (λg w d=>?_);apply yc;refine yk ?_;apply ye;apply yc;refine ya ?_;refine ya (hs:=by exact zfy Tryz.underlying9 rfl) ?_;refine ya ?_;refine bI 3 ?_;refine yw ?_;refine bE ?_;refine bE (hs:=λH=>zfy Tryz.underlying9 rfl) ?_;refine bE ?_;iterate 2 refine yw ?_
 refine bE ?_;refine bE (hs:=λH=>zcc (s:=s) (i:=0) Tryz.underlying9 rfl rfl ac aa) ?_;refine bE ?_;iterate 2 refine yw ?_
 refine bE ?_;refine bE (hs:=λH=>zcc (s:=s) (i:=0) Tryz.underlying9 rfl rfl ac aa) ?_;refine bE ?_;refine gf ?_ ?_<;>intro x1
 ·have G:nmQ (bsB s)=false:=zHH (by rw[N,show(bsB s).getD 0 0=((bsB s).getD (0:Int).toNat 0)from rfl];unfold lwB;simp only[vO,uT];omega);refine gq ?_;all_goals rw[G]
 have xT:lwB ((bsB s).getD 0 0)=true:=by show lwB ((bsB s).getD (0:Int).toNat 0)=true;unfold lwB;simp only[jE,w8];omega
 apply yf;apply ye;apply yc;refine ya ?_;refine ya (hs:=by exact zfy Tryz.underlying9 rfl) ?_;refine yk ?_;apply kX;refine zag (ι:=Nat) [0,24] (λ(k:Nat)zz=>(25,iv (k:Int))::zz) [] (λ(k:Nat)zz=>zz) (λ(k:Nat)=>k<=s.size/\((bsB s).take k).all nkB=true) (λ(k:Nat)=>s.size-k) 0 (λk hk=>?_) (hJ:=by exact⟨jU _,ah⟩);obtain⟨x0,K⟩:=hk;refine gd ?_ ?_<;>intro w2
 ·apply yf;apply ye;apply kX;apply yc;iterate 2 refine ya ?_
  apply yp;iterate 2 refine ya ?_
  refine ya (hs:=by exact zcc (s:=s) (i:=(k:Int)) Tryz.underlying9 rfl rfl aa aa) ?_;refine ya ?_;apply yp;iterate 2 refine ya ?_
  refine bI 2 ?_;refine yw ?_;iterate 2 refine bE ?_
  iterate 2 refine yw ?_
  iterate 6 refine bE ?_
  iterate 2 refine yw ?_
  iterate 2 refine bE ?_
  refine gf ?_ ?_<;>intro v9
  ·have G:nmQ (bsB s)=false:=zzv (k:=k) aa (zCl (by rw[show(bsB s).getD k 0=((bsB s).getD (k:Int).toNat 0)by rw[jN]];omega));refine gq ?_;all_goals rw[G]
  have x2:=zHI K aa (zCm (by rw[show(bsB s).getD k 0=((bsB s).getD (k:Int).toNat 0)by rw[jN]];omega));refine gq ?_;refine yr (k+1) (hJ:=by exact⟨aa,x2⟩) (hI:=kW)
 ·obtain rfl:k=s.size:=aa
  have G:nmQ (bsB s)=true:=by
   rw[←N,jR]at K;rw[zzw K,xT,N];simp;omega
  refine gq ?_;all_goals rw[G]
end
section
variable{k:Int}{s:Sg}
def zgf{n a b:Int}(h:a<=n/\n<=b):¬wnQ n a b=false:=by unfold wnQ;simp[h.1,h.2]
def zur(h:1<=k/\k<=12):((gcE usesL).drop (0+k.toNat*12)).take 12=sfE (ufS k):=by
 have:k=1\/k=2\/k=3\/k=4\/k=5\/k=6\/k=7\/k=8\/k=9\/k=10\/k=11\/k=12:=aa
 rcases this with h|h|h|h|h|h|h|h|h|h|h|h<;>subst h<;>rfl
def zzB(h:1<=k/\k<=12):(gcE clsL)[0+k.toNat*1]? =some (iv (clS k)):=by
 have:k=1\/k=2\/k=3\/k=4\/k=5\/k=6\/k=7\/k=8\/k=9\/k=10\/k=11\/k=12:=aa
 rcases this with h|h|h|h|h|h|h|h|h|h|h|h<;>subst h<;>rfl
def zHM{f:Sf}(h:s=ktV s f):(f.v=false->s.Value=0)/\(f.p=false->s.Place=0)/\(f.a=false->s.Acc=0)/\(f.c=false->s.Color=false)/\(f.s=false->s.Stem=0)/\(f.o=false->s.Oblique=false)/\(f.l=false->s.Last=false)/\(f.m=false->s.Mens=⟨0,0,0,0⟩)/\(f.k=false->s.Stroke=false)/\(f.n=false->s.N=0)/\(f.d=false->s.D=0)/\(f.f=false->s.CStep=0/\s.CLine=0):=by
 refine⟨λe=>?_,λe=>?_,λe=>?_,λe=>?_,λe=>?_,λe=>?_,λe=>?_,λe=>?_,λe=>?_,λe=>?_,λe=>?_,λe=>⟨?_,?_⟩⟩<;>(rw[h];simp[ktV,e])
attribute [local irreducible] FnW FnOW FnP FnD
attribute [local irreducible] ufS clS wnQ ckM nmQ bsB
def zL(n a b:Int):Fn prog 217 [iv n,iv a,iv b] (.bool (wnQ n a b)):=by
 refine bB func217 ntmps217 (λg w d=>?_);apply yc;refine ya ?_;apply yp;iterate 3 refine ya ?_
 refine bI 3 ?_;refine yw ?_;iterate 3 refine bE ?_
 refine ge ?_;all_goals(first|rfl|(unfold wnQ;rfl))
def zmF(s:Sg)(f:Sf)(h:s=ktV s f):Fn prog 179 [sgA s,.agg (sfE f)] (sgA s):=by
 have v0:=zHM h;obtain⟨k0,k1,k2,k3,k4,k5,k6,k7,k8,k9,k10,k11⟩:=v0;refine bB func179 ntmps179 (λg w d=>?_);apply yc;iterate 2 refine zl ?_
 refine yP ?_;apply yp;iterate 3 refine ya ?_
 refine yP ?_;refine bF ?_;apply bD;refine zh6 [2,3,4,5] id [2,3,4] (λzz=>(5,.box [iv s.Kind,iv s.Value,iv 0,iv 0,.bool false,iv 0,.bool false,.bool false,iv 0,iv 0,iv 0,iv 0,.bool false,iv 0,iv 0,iv 0,iv 0] 69)::zz) (λv5=>?_) ?_
 ·refine gd ?_ ?_<;>intro j4
  ·apply yd;(iterate 3 refine ya ?_);refine bF ?_;apply bD;exact yl kW v5
  ·rw[k0 j4]at v5;apply yf;exact yl kW v5
 refine zh6 [2,3,4,5] id [2,3,4] (λzz=>(5,.box [iv s.Kind,iv s.Value,iv s.Place,iv 0,.bool false,iv 0,.bool false,.bool false,iv 0,iv 0,iv 0,iv 0,.bool false,iv 0,iv 0,iv 0,iv 0] 69)::zz) (λv4=>?_) ?_
 ·refine gd ?_ ?_<;>intro j3
  ·apply yd;(iterate 3 refine ya ?_);refine bF ?_;apply bD;exact yl kW v4
  ·rw[k1 j3]at v4;apply yf;exact yl kW v4
 refine zh6 [2,3,4,5] id [2,3,4] (λzz=>(5,.box [iv s.Kind,iv s.Value,iv s.Place,iv s.Acc,.bool false,iv 0,.bool false,.bool false,iv 0,iv 0,iv 0,iv 0,.bool false,iv 0,iv 0,iv 0,iv 0] 69)::zz) (λv3=>?_) ?_
 ·refine gd ?_ ?_<;>intro j2
  ·apply yd;(iterate 3 refine ya ?_);refine bF ?_;apply bD;exact yl kW v3
  ·rw[k2 j2]at v3;apply yf;exact yl kW v3
 refine zh6 [2,3,4,5] id [2,3,4] (λzz=>(5,.box [iv s.Kind,iv s.Value,iv s.Place,iv s.Acc,.bool s.Color,iv 0,.bool false,.bool false,iv 0,iv 0,iv 0,iv 0,.bool false,iv 0,iv 0,iv 0,iv 0] 69)::zz) (λK=>?_) ?_
 ·refine gd ?_ ?_<;>intro j1
  ·apply yd;(iterate 3 refine ya ?_);refine bF ?_;apply bD;exact yl kW K
  ·rw[k3 j1]at K;apply yf;exact yl kW K
 refine zh6 [2,3,4,5] id [2,3,4] (λzz=>(5,.box [iv s.Kind,iv s.Value,iv s.Place,iv s.Acc,.bool s.Color,iv s.Stem,.bool false,.bool false,iv 0,iv 0,iv 0,iv 0,.bool false,iv 0,iv 0,iv 0,iv 0] 69)::zz) (λH=>?_) ?_
 ·refine gd ?_ ?_<;>intro j0
  ·apply yd;(iterate 3 refine ya ?_);refine bF ?_;apply bD;exact yl kW H
  ·rw[k4 j0]at H;apply yf;exact yl kW H
 refine zh6 [2,3,4,5] id [2,3,4] (λzz=>(5,.box [iv s.Kind,iv s.Value,iv s.Place,iv s.Acc,.bool s.Color,iv s.Stem,.bool s.Oblique,.bool false,iv 0,iv 0,iv 0,iv 0,.bool false,iv 0,iv 0,iv 0,iv 0] 69)::zz) (λG=>?_) ?_
 ·refine gd ?_ ?_<;>intro hZ
  ·apply yd;(iterate 3 refine ya ?_);refine bF ?_;apply bD;exact yl kW G
  ·rw[k5 hZ]at G;apply yf;exact yl kW G
 refine zh6 [2,3,4,5] id [2,3,4] (λzz=>(5,.box [iv s.Kind,iv s.Value,iv s.Place,iv s.Acc,.bool s.Color,iv s.Stem,.bool s.Oblique,.bool s.Last,iv 0,iv 0,iv 0,iv 0,.bool false,iv 0,iv 0,iv 0,iv 0] 69)::zz) (λxT=>?_) ?_
 ·refine gd ?_ ?_<;>intro hY
  ·apply yd;(iterate 3 refine ya ?_);refine bF ?_;apply bD;exact yl kW xT
  ·rw[k6 hY]at xT;apply yf;exact yl kW xT
 refine zh6 [2,3,4,5] id [2,3,4] (λzz=>(5,.box [iv s.Kind,iv s.Value,iv s.Place,iv s.Acc,.bool s.Color,iv s.Stem,.bool s.Oblique,.bool s.Last,iv s.Mens.Max,iv s.Mens.Mod,iv s.Mens.Tem,iv s.Mens.Pro,.bool false,iv 0,iv 0,iv 0,iv 0] 69)::zz) (λx2=>?_) ?_
 ·refine gd ?_ ?_<;>intro hX
  ·apply yd;(iterate 3 refine ya ?_);refine bF ?_;apply bD;exact yl kW x2
  ·rw[k7 hX]at x2;apply yf;exact yl kW x2
 refine zh6 [2,3,4,5] id [2,3,4] (λzz=>(5,.box [iv s.Kind,iv s.Value,iv s.Place,iv s.Acc,.bool s.Color,iv s.Stem,.bool s.Oblique,.bool s.Last,iv s.Mens.Max,iv s.Mens.Mod,iv s.Mens.Tem,iv s.Mens.Pro,.bool s.Stroke,iv 0,iv 0,iv 0,iv 0] 69)::zz) (λx1=>?_) ?_
 ·refine gd ?_ ?_<;>intro hW
  ·apply yd;(iterate 3 refine ya ?_);refine bF ?_;apply bD;exact yl kW x1
  ·rw[k8 hW]at x1;apply yf;exact yl kW x1
 refine zh6 [2,3,4,5] id [2,3,4] (λzz=>(5,.box [iv s.Kind,iv s.Value,iv s.Place,iv s.Acc,.bool s.Color,iv s.Stem,.bool s.Oblique,.bool s.Last,iv s.Mens.Max,iv s.Mens.Mod,iv s.Mens.Tem,iv s.Mens.Pro,.bool s.Stroke,iv s.N,iv 0,iv 0,iv 0] 69)::zz) (λx0=>?_) ?_
 ·refine gd ?_ ?_<;>intro v2
  ·apply yd;(iterate 3 refine ya ?_);refine bF ?_;apply bD;exact yl kW x0
  ·rw[k9 v2]at x0;apply yf;exact yl kW x0
 refine zh6 [2,3,4,5] id [2,3,4] (λzz=>(5,.box [iv s.Kind,iv s.Value,iv s.Place,iv s.Acc,.bool s.Color,iv s.Stem,.bool s.Oblique,.bool s.Last,iv s.Mens.Max,iv s.Mens.Mod,iv s.Mens.Tem,iv s.Mens.Pro,.bool s.Stroke,iv s.N,iv s.D,iv 0,iv 0] 69)::zz) (λw2=>?_) ?_
 ·refine gd ?_ ?_<;>intro v1
  ·apply yd;(iterate 3 refine ya ?_);refine bF ?_;apply bD;exact yl kW w2
  ·rw[k10 v1]at w2;apply yf;exact yl kW w2
 refine zh6 [2,3,4,5] id [2,3,4] (λzz=>(5,.box [iv s.Kind,iv s.Value,iv s.Place,iv s.Acc,.bool s.Color,iv s.Stem,.bool s.Oblique,.bool s.Last,iv s.Mens.Max,iv s.Mens.Mod,iv s.Mens.Tem,iv s.Mens.Pro,.bool s.Stroke,iv s.N,iv s.D,iv s.CStep,iv s.CLine] 69)::zz) (λv9=>?_) ?_
 ·refine gd ?_ ?_<;>intro v8
  ·apply yd;(iterate 3 refine ya ?_);refine bF ?_;apply bD;exact yl kW v9
  ·rw[(k11 v8).1,(k11 v8).2]at v9;apply yf;exact yl kW v9
 refine gq ?_;refine bJ (.one (.cellA rfl rfl rfl rfl ty69 (kZ ?_)));all_goals exact zR
def zjY(s:Sg)(f:Sf)(h:RgK s f):Fn prog 180 [sgA s,.agg (sfE f)] (.bool true):=by
 refine bB func180 ntmps180 (λg w d=>?_);apply yc;iterate 2 refine zl ?_
 refine yk ?_;apply ye;apply kX;apply yc;iterate 2 refine ya ?_
 refine bI 2 ?_;refine gq ?_;refine bT (zL _ _ _) ?_;refine bE ?_;refine gf ?_ ?_<;>intro K
 ·exact absurd K.2 (zgf (h.v K.1))
 apply yc;iterate 2 refine ya ?_
 refine bI 2 ?_;refine gq ?_;refine bT (zL _ _ _) ?_;refine bE ?_;refine gf ?_ ?_<;>intro H
 ·exact absurd H.2 (zgf (h.p H.1))
 apply yc;iterate 2 refine ya ?_
 refine bI 2 ?_;refine gq ?_;refine bT (zL _ _ _) ?_;refine bE ?_;refine gf ?_ ?_<;>intro G
 ·exact absurd G.2 (zgf (h.a G.1))
 apply yc;iterate 2 refine ya ?_
 refine bI 2 ?_;refine gq ?_;refine bT (zL _ _ _) ?_;refine bE ?_;refine gf ?_ ?_<;>intro xT
 ·exact absurd xT.2 (zgf (h.s xT.1))
 apply yc;iterate 2 refine ya ?_
 refine bI 2 ?_;refine gq ?_;refine bT (zL _ _ _) ?_;refine gq ?_;refine bT (zL _ _ _) ?_;iterate 2 refine bE ?_
 refine gf ?_ ?_<;>intro N
 ·exact N.2.elim (λq=>absurd q (zgf (h.d N.1).1)) (λq=>absurd q (zgf (h.d N.1).2))
 apply yc;iterate 2 refine ya ?_
 refine bI 2 ?_;refine gq ?_;refine bT (zL _ _ _) ?_;iterate 2 refine bE ?_
 refine gf ?_ ?_<;>intro x0
 ·exact absurd x0 (by have:=h.c;have:=λq:f.f=true=>zgf (h.c q).2;grind)
 apply yc;iterate 3 refine ya ?_
 refine bI 3 ?_;refine gq ?_;refine bT (zL _ _ _) ?_;refine bE ?_;refine gf ?_ ?_<;>intro x2
 ·exact absurd x2.2 (zgf (h.y x2.1))
 apply yc;iterate 3 refine ya ?_
 refine bI 3 ?_;refine gq ?_;refine bT (zL _ _ _) ?_;refine bE ?_;refine gf ?_ ?_<;>intro x1
 ·exact absurd x1.2 (zgf (h.r x1.1))
 refine gq ?_;all_goals exact zR
def znL(s:Sg)(h:SgK s):Fn prog 146 [sgA s] (iv 0):=by
 have h1:=h.k;refine bB func146 ntmps146 (λg w d=>?_);apply yc;refine zl ?_;refine yk ?_;apply ye;apply yc;iterate 3 refine ya ?_
 refine bI 3 ?_;refine yw ?_;iterate 3 refine bE ?_
 refine gf ?_ ?_<;>intro K
 ·exact absurd K aa
 apply yf;apply yc;iterate 2 refine ya ?_
 refine yO (zaP rfl rfl ArK.h zxZ aa aa) rfl ?_;refine yO (zdY (ys:=sfE (ufS s.Kind)) rfl (zur h1) rfl rfl TyK.h) rfl ?_;refine gq ?_;refine y4 [16,17,18,19,20,21] [0,0,0,6,15,31] mo ?_;iterate 3 refine yb ?_
 refine yI (zmF s (ufS s.Kind) h.f) ?_;iterate 2 refine yb ?_
 refine yD ?_;refine gd ?_ ?_<;>intro H
 ·exact absurd rfl H
 apply yc;iterate 2 refine ya ?_
 refine bI 2 ?_;refine gq ?_;refine bT (zce s.Mens) ?_;refine bE ?_;refine gf ?_ ?_<;>intro N
 ·exact absurd (h.m N.1) N.2
 refine gc (zjY s (ufS s.Kind) h.g) ?_;refine gd ?_ ?_<;>intro G
 ·cases G
 apply yc;iterate 2 refine ya ?_
 refine bI 2 ?_;refine yw ?_;iterate 2 refine bE ?_
 refine gf ?_ ?_<;>intro xT
 ·exact absurd xT h.o
 refine gq ?_;all_goals exact zR
def zlF(k:Int)(h:1<=k/\k<=12):Fn prog 161 [iv k] (.tup [iv (clS k),iv 0]):=by
 refine bB func161 ntmps161 (λg w d=>?_);apply yc;refine yC ?_;apply ye;apply yc;iterate 2 refine ya ?_
 refine bI 2 ?_;refine yw ?_;iterate 2 refine bE ?_
 refine gf ?_ ?_<;>intro N
 ·exact absurd N aa
 apply yf;apply yc;refine ya ?_;refine yO (zaP rfl rfl ArK.h ty3 aa aa) rfl ?_;refine yO (zaa rfl (zzB h) rfl ty3) rfl ?_;refine gq ?_;refine yn ?_ ?_;all_goals exact zR
def zcd(s:ByteArray)(l:List Sg)(hs:s.size<=1000000)(hn:nmQ (bsB s)=true)(hl:l.length<=400)(K:∀x∈l,SgK x/\¬x.Kind=4):Fn prog 102 [.agg [.str s,sgsA l]] (.tup [iv 0,iv 0]):=by
 refine bB func102 ntmps102 (λg w d=>?_);refine gc (zge s hs) ?_;refine gd ?_ ?_<;>intro H
 ·exact absurd H (by simp[hn])
 refine gd ?_ ?_<;>intro G
 ·exact absurd G aa
 apply yf;apply yc;refine yk ?_;apply ye;refine X.label ?_;apply ye;apply yc;refine ya ?_;refine yo ?_;apply kX;refine y9 [1,4,18] (λk zz=>(19,iv (k:Int))::zz) [1] (λ_ zz=>zz) l.length (λk hk=>?_);refine gd ?_ ?_<;>intro x0
 ·have xT:=@getX _ l k aa;obtain⟨x,hx,w2⟩:=xT;have N:=K x (j6 hx);refine gc (znL x N.1) ?_;refine gd ?_ ?_<;>intro x2
  ·exact absurd rfl x2
  refine gd ?_ ?_<;>intro x1
  ·refine gq ?_;refine yr (k+1) (hI:=kW)
  exact absurd x1 N.2
 ·refine gq ?_;refine yn ?_ ?_;all_goals exact zR
end
end Go.Rse
namespace Go.Rse
open Go Go.RowKit Go.Proofs.Tryz
section
section
variable{P:Program}{C:Ctx}{st:St}{ty:TypeId}{Q:Exit->St->Prop}
def zki(a:Addr):a.add 0=a:=by rfl
end
end
section
section
variable{P:Program}{C:Ctx}{st:St}{ty:TypeId}{Q:Exit->St->Prop}
variable{E T:TypeId}{w:World}
def zus(N:P.underlying T=some (.slice E))(A:Option Addr)(n c:Nat):(Op.equal T (.slice A n c) (.slice none 0 0)).run P w=.ok A.isNone w:=by
 unfold Op.equal;rw[show Op.maxDepth=9999+1 from rfl];unfold Op.equalIn;cases A<;>simp[run_underlying N]
def zzC{ops:Array Oper}{rest:List Oper}{d:Nat}{pos:String}{af:Array Edge}{α:Type}{enc:α->List AV}{l:List α}{T E:TypeId}{x:Operand}{yt:TypeId}(h:∀b:Bool,(l≠[]->b=false)->Ex P C ops rest ⟨(d,.bool b)::st.t,st.h⟩ Q)
 (K:P.underlying T=some (.slice E))(hx:ev st x=some (.sl enc l):=by exact rfl)(H:dOk C.n (some d)=true:=by exact rfl):
 Ex P C ops ({dst:=some d,op:=.binOp .eql T x (.const (.slice none 0 0)) yt,type:=ty,pos:=pos,after:=af,guard:=none}::rest) st Q:=λg a w hr=>by
 obtain⟨A,b,o,s,c,vs,e,G,-⟩:=zcF (yq hr hx);have e0:a.eval (.const (.slice none 0 0))=.slice none 0 0:=rfl;have hg:(eqGuard .eql T x (.const (.slice none 0 0)) (.slice A l.length c) (.slice none 0 0)).run P w=.ok () w:=by unfold eqGuard;simp
 have h1:=zus (P:=P) (w:=w) K A l.length c;refine wpListIn_plain rfl λK' hK=>zaf ?_
 simp only[wp1,execOp,e,e0,jM,hg,jH,binOp,h1,jP,zbH];refine hK _ _ ?_;exact h A.isNone (λN=>by rw[G N];rfl) _ _ _ (hr.addSt (nb:=none) (d:=some d) (x:=.bool A.isNone) (v:=.bool A.isNone) (Add.refl _ g w) H rfl (.bool _) hr.sat.im hr.sat.ob (λ_ _ h=>by cases h))
end
end
end Go.Rse
namespace Go.Rse
open Go Go.Proofs Go.Proofs.Tryz
variable{j k:Nat}{kn:Bool}{zs:List AV}
structure PtK(s:ByteArray)(l:List Sg):Prop where
 hs:s.size<=1000000
 hn:nmQ (bsB s)=true
 hl:l.length<=400
 hk:∀x∈l,SgK x/\¬x.Kind=4
def PtK.at{s:ByteArray}{l:List Sg}(h:PtK s l){x:Sg}(hx:l[k]? =some x):(1<=x.Kind/\x.Kind<=12)/\¬x.Kind=4:=⟨(h.hk x (j6 hx)).1.k,(h.hk x (j6 hx)).2⟩
def zlG{l:List Sg}(h:(scX l)[j]? =some zs):∃s,(scV l)[j]? =some s/\zs=[scA s]:=by
 rw[scX,j9]at h;cases hk:(scV l)[j]? with
 |none=>simp[hk]at h
 |some k=>simp[hk]at h;exact⟨k,rfl,h.symm⟩
def zqc{M M':Mn}{F T:Int}{L:List Sc}{b:Ss}(h:b=⟨M,kn,⟨F,T,M'⟩,L⟩):kn=b.kn/\([iv M.Max,iv M.Mod,iv M.Tem,iv M.Pro]:List AV)=mnE b.m/\mnE M=mnE b.m/\([iv F,iv T,iv M'.Max,iv M'.Mod,iv M'.Tem,iv M'.Pro,iv 0,iv 0]:List AV)=scE b.s/\L.length=b.L.length:=by
 subst h;exact⟨rfl,rfl,rfl,rfl,rfl⟩
attribute [local irreducible] Pur yy yu Ex X Fn Imp LeV LeB FnO It yA FnW FnOW FnP FnD
attribute [local irreducible] ufS clS ckM nmQ bsB scS scV scX
def zdW(s:Sg)(h:1<=s.Kind/\s.Kind<=12):Fn prog 109 [sgA s] (iv (clS s.Kind)):=by
 refine bB func109 ntmps109 (λg w d=>?_);refine gc (zlF s.Kind h) ?_;all_goals exact zR
def zbh(l:List Sg)(hl:l.length<=1000000):Fn prog 181 [sgsA l] (sgsA l):=by
 refine bB func181 ntmps181 (λg w d=>?_);apply yc;refine yk ?_;apply ye;apply yc;refine ya ?_;refine zzC (λbn H=>?_) Tryz.underlying24;refine gd ?_ ?_<;>intro N
 ·have K:l=[]:=by
   cases l with
   |nil=>rfl
   |cons x r=>rw[H ah]at N;cases N
  apply yc;refine yk ?_;refine bC ?_;refine yi (yh (ts:=[(2,sgsA [])]) (hs:=[])) ?_;refine gq ?_;all_goals(first|exact jA (λz=>sgsA z) K.symm|rfl)
 refine gq ?_;refine yH sgE [] ?_;refine ya ?_;refine bF ?_;refine yk ?_;refine bC ?_;refine yi (kY (k:=5) rfl) ?_;refine gq ?_;all_goals(first|exact jA (λz=>sgsA z) K.symm|rfl)
def zg2(s:ByteArray)(l:List Sg)(h:PtK s l):Fn prog 147 [.agg [.str s,sgsA l]] (.tup [.agg [.str s,sgsA l],iv 0]):=by
 have hl:=h.hl;refine bB func147 ntmps147 (λg w d=>?_);refine gc (zcd s l h.hs h.hn h.hl h.hk) ?_;refine gd ?_ ?_<;>intro N
 ·exact absurd N ac
 refine gq ?_;refine y4 [6,23,24,25,26,27,28] [0,1,0,4,12,31,0,127] mo ?_;iterate 4 refine yb ?_
 refine yI (zbh l aa) ?_;refine yb ?_;refine ChM.step rfl rfl rfl (zd (k:=6) zc26) rfl ?_;refine yD ?_;refine bF ?_;apply yp;refine ya ?_;apply yp;refine yk ?_;apply ye;refine X.label ?_;apply ye;apply kX;refine y9 [1,2,6,7] (λk zz=>(8,iv (k:Int))::zz) [1,2,6] (λ_ zz=>zz) l.length (λk hk=>?_);refine gd ?_ ?_<;>intro x2
 ·have K:=@getX _ l k aa;obtain⟨x,hx,x1⟩:=K;have H:=h.at hx;refine gd ?_ ?_<;>intro G
  ·refine gq ?_;refine yr (k+1) (hI:=kW)
  exact absurd G H.2
 ·refine gd ?_ ?_<;>intro xT
  ·exact absurd xT ac
  refine gq ?_;refine yR ty26 ?_ ?_;all_goals exact zR
def zfA(s:ByteArray)(l:List Sg):Fn prog 149 [.agg [.str s,sgsA l]] (.fn 183 [.ept (λ_:Unit=>[.str s,sgsA l]) () 0]):=by
 refine bB func149 ntmps149 (λg w d=>?_);apply yc;refine zl ?_;refine ya ?_;apply yp;refine yC ?_;refine bC ?_;refine yi (bG (k:=1) rfl rfl) ?_;refine gq ?_;all_goals exact zR
def zek(s:ByteArray)(l:List Sg)(h:PtK s l)(hok:ScOk l):It prog 183 [.ept (λ_:Unit=>[.str s,sgsA l]) () 0] (scX l):=by
 have hl:=h.hl;have z1:(false:Bool)=(scS l 0).kn:=by unfold scS;rfl
 have z2:(0:Nat)=(scS l 0).L.length:=by unfold scS;rfl
 have z3:([iv 0,iv 0,iv 0,iv 0]:List AV)=mnE (scS l 0).m:=by unfold scS;rfl
 have z4:([iv (-1),iv 0,iv 0,iv 0,iv 0,iv 0,iv 0,iv 0]:List AV)=scE (scS l 0).s:=by unfold scS;rfl
 refine zc1 func183 ntmps183 (λg w d ds Y lY hY=>?_);apply yc;refine yP ?_;apply yp;refine ya ?_;apply yp;refine ya ?_;refine yP ?_;refine bF ?_;apply bD;iterate 2 apply ye
 refine yl (st':=⟨[(0,.yv lY),(1,.ept (λ_:Unit=>[.str s,sgsA l]) () 0),(3,.ptr 3 0 0 0),(4,.bool false),(5,.ptr 5 0 0 0)],[(1000000,.yld 0 true),(3,.box [iv 0,iv 0,iv 0,iv 0] 67),(5,.box [iv (-1),iv 0,iv 0,iv 0,iv 0,iv 0,iv 0,iv 0] 173)]⟩) kW ?_;apply yd;refine ya ?_;refine yo ?_;apply kX;refine y9 [0,1,3,5,10,11] (λk zz=>(4,.bool (scS l k).kn)::(12,iv (k:Int))::zz) [] (λk zz=>(1000000,.yld (scS l k).L.length true)::(3,.box (mnE (scS l k).m) 67)::(5,.box (scE (scS l k).s) 173)::zz) l.length (λk hk=>?_);refine gd ?_ ?_<;>intro k2
 ·have v4:=@getX _ l k aa;obtain⟨x,hx,j4⟩:=v4;have v3:=h.at hx;have x0:=hok k x hx;have v2:=zo2 l k aa;obtain⟨r1,r2,r3,r5,r4⟩:=v2;refine gc (zdW x v3.1) ?_;refine gd ?_ ?_<;>intro x1
  ·have K:=zCt hx x1;have v1:=x0.1 x1;have N:=zqc K;obtain⟨e1,e2,e5,e3,e4⟩:=N;refine gd ?_ ?_<;>intro v0
   ·exact absurd v1 (by simp[v0])
   apply yf;refine zbm ⟨[(0,.yv lY),(1,.ept (λ_:Unit=>[.str s,sgsA l]) () 0),(3,.ptr 3 0 0 0),(5,.ptr 5 0 0 0),(10,sgsA l),(11,iv (l.length:Int)),(12,iv (k:Int)),(4,.bool (scS l k).kn),(6,iv (k:Int))],[(1000000,.yld (scS l k).L.length true),(3,.box (mnE (scS l k).m) 67),(5,.box ([iv (if(scS l k).s.F<0 then(k:Int)else(scS l k).s.F),iv (scS l k).s.T,iv (scS l k).s.M.Max,iv (scS l k).s.M.Mod,iv (scS l k).s.M.Tem,iv (scS l k).s.M.Pro,iv 0,iv 0]) 173)]⟩ (λH=>?_) ?_
   ·refine gd ?_ ?_<;>intro k9
    ·have hq:([iv (k:Int),iv (scS l k).s.T,iv (scS l k).s.M.Max,iv (scS l k).s.M.Mod,iv (scS l k).s.M.Tem,iv (scS l k).s.M.Pro,iv 0,iv 0]:List AV)=[iv (if(scS l k).s.F<0 then(k:Int)else(scS l k).s.F),iv (scS l k).s.T,iv (scS l k).s.M.Max,iv (scS l k).s.M.Mod,iv (scS l k).s.M.Tem,iv (scS l k).s.M.Pro,iv 0,iv 0]:=by rw[j7 k9]
     apply yd;(iterate 2 refine ya ?_);refine bF ?_;apply bD;exact yl kW H
    ·have hq:(scE (scS l k).s:List AV)=[iv (if(scS l k).s.F<0 then(k:Int)else(scS l k).s.F),iv (scS l k).s.T,iv (scS l k).s.M.Max,iv (scS l k).s.M.Mod,iv (scS l k).s.M.Tem,iv (scS l k).s.M.Pro,iv 0,iv 0]:=by rw[j8 aa];rfl
     apply yf;exact yl kW H
   refine gq ?_;refine yr (k+1) (hI:=kW)
  ·have c1:¬clS x.Kind=1:=x1;refine gd ?_ ?_<;>intro w2
   ·have K:=zCu hx w2;have j3:=x0.2.1 w2;have N:=zqc K;obtain⟨e1,e2,e5,e3,e4⟩:=N;refine gd ?_ ?_<;>intro k8
    ·exact absurd k8 aa
    refine gq ?_;refine yr (k+1) (hI:=kW)
   ·refine gd ?_ ?_<;>intro v9
    ·have c3:clS x.Kind=3:=v9;(iterate 2 apply ye);have k7:¬0<=(scS l k).s.F\/0<=(scS l k).s.F:=aa
     rcases k7 with G|G
     ·have hp:decide (0<=(scS l k).s.F)=false:=wB G;have v8:(decide (0<=(scS l k).s.F)==true)=false:=by rw[hp];rfl
      apply yd;(iterate 4 refine ya ?_);(iterate 4 refine zbc ?_);refine yO (zcj rfl hp rfl) rfl ?_;refine gd ?_ ?_<;>intro k6
      ·exact absurd k6 ac
      refine gd ?_ ?_<;>intro v5
      ·have K:=zuq hx c3 (m':=x.Mens) (kn':=true) (L':=(scS l k).L) (.inl ⟨v5,rfl,rfl⟩) (.inr ⟨G,rfl⟩);have N:=zqc K;obtain⟨e1,e2,e5,e3,e4⟩:=N;apply yd;(iterate 2 refine ya ?_);refine bF ?_;refine yk ?_;apply yd;(iterate 2 refine ya ?_);refine bF ?_;apply bD;refine yl (st':=⟨[(0,.yv lY),(1,.ept (λ_:Unit=>[.str s,sgsA l]) () 0),(3,.ptr 3 0 0 0),(5,.ptr 5 0 0 0),(10,sgsA l),(11,iv (l.length:Int)),(12,iv (k:Int)),(4,.bool true)],[(1000000,.yld ((scS l k).L.length) true),(3,.box [iv x.Mens.Max,iv x.Mens.Mod,iv x.Mens.Tem,iv x.Mens.Pro] 67),(5,.box [iv (-1),iv 0,iv x.Mens.Max,iv x.Mens.Mod,iv x.Mens.Tem,iv x.Mens.Pro,iv 0,iv 0] 173)]⟩) kW ?_;refine gq ?_;refine yr (k+1) (hI:=kW)
      ·have K:=zuq hx c3 (m':=(scS l k).m) (kn':=(scS l k).kn) (L':=(scS l k).L) (.inr ⟨v5,rfl,rfl⟩) (.inr ⟨G,rfl⟩);have N:=zqc K;obtain⟨e1,e2,e5,e3,e4⟩:=N;apply yf;apply yd;(iterate 2 refine ya ?_);refine bF ?_;apply bD;refine yl (st':=⟨[(0,.yv lY),(1,.ept (λ_:Unit=>[.str s,sgsA l]) () 0),(3,.ptr 3 0 0 0),(5,.ptr 5 0 0 0),(10,sgsA l),(11,iv (l.length:Int)),(12,iv (k:Int)),(4,.bool (scS l k).kn)],[(1000000,.yld ((scS l k).L.length) true),(3,.box (mnE (scS l k).m) 67),(5,.box [iv (-1),iv 0,iv (scS l k).m.Max,iv (scS l k).m.Mod,iv (scS l k).m.Tem,iv (scS l k).m.Pro,iv 0,iv 0] 173)]⟩) kW ?_;refine gq ?_;refine yr (k+1) (hI:=kW)
     ·have hp:decide (0<=(scS l k).s.F)=true:=wD G;have v8:(decide (0<=(scS l k).s.F)==true)=true:=by rw[hp];rfl
      have k5:=zHL hx c3 G;apply yd;(iterate 4 refine ya ?_);(iterate 2 refine zS ?_);refine zbT hY rfl rfl rfl (λ_=>⟨_,_,rfl,rfl,rfl,bK _,rfl,rfl,k5,λb=>?_⟩) (λh=>absurd (h.symm.trans v8) ac);refine zS ?_;refine gd ?_ ?_<;>intro xT
      ·subst xT;refine bC ?_;refine⟨.inr rfl,_,false,rfl,λhb=>by simp at hb⟩
      subst xT;refine gd ?_ ?_<;>intro x2
      ·have K:=zuq hx c3 (m':=x.Mens) (kn':=true) (L':=(scS l k).L++[(scS l k).s]) (.inl ⟨x2,rfl,rfl⟩) (.inl ⟨G,rfl⟩);have N:=zqc K;obtain⟨e1,e2,e5,e3,e4⟩:=N;rw[jJ,uI]at e4;apply yd;(iterate 2 refine ya ?_);refine bF ?_;refine yk ?_;apply yd;(iterate 2 refine ya ?_);refine bF ?_;apply bD;refine yl (st':=⟨[(0,.yv lY),(1,.ept (λ_:Unit=>[.str s,sgsA l]) () 0),(3,.ptr 3 0 0 0),(5,.ptr 5 0 0 0),(10,sgsA l),(11,iv (l.length:Int)),(12,iv (k:Int)),(4,.bool true)],[(1000000,.yld ((scS l k).L.length+1) true),(3,.box [iv x.Mens.Max,iv x.Mens.Mod,iv x.Mens.Tem,iv x.Mens.Pro] 67),(5,.box [iv (-1),iv 0,iv x.Mens.Max,iv x.Mens.Mod,iv x.Mens.Tem,iv x.Mens.Pro,iv 0,iv 0] 173)]⟩) kW ?_;refine gq ?_;refine yr (k+1) (hI:=kW)
      ·have K:=zuq hx c3 (m':=(scS l k).m) (kn':=(scS l k).kn) (L':=(scS l k).L++[(scS l k).s]) (.inr ⟨x2,rfl,rfl⟩) (.inl ⟨G,rfl⟩);have N:=zqc K;obtain⟨e1,e2,e5,e3,e4⟩:=N;rw[jJ,uI]at e4;apply yf;apply yd;(iterate 2 refine ya ?_);refine bF ?_;apply bD;refine yl (st':=⟨[(0,.yv lY),(1,.ept (λ_:Unit=>[.str s,sgsA l]) () 0),(3,.ptr 3 0 0 0),(5,.ptr 5 0 0 0),(10,sgsA l),(11,iv (l.length:Int)),(12,iv (k:Int)),(4,.bool (scS l k).kn)],[(1000000,.yld ((scS l k).L.length+1) true),(3,.box (mnE (scS l k).m) 67),(5,.box [iv (-1),iv 0,iv (scS l k).m.Max,iv (scS l k).m.Mod,iv (scS l k).m.Tem,iv (scS l k).m.Pro,iv 0,iv 0] 173)]⟩) kW ?_;refine gq ?_;refine yr (k+1) (hI:=kW)
    ·have K:=zCv hx c1 ai v9;have e1:(scS l k).kn=(scS l (k+1)).kn:=by rw[K]
     have e2:mnE (scS l k).m=mnE (scS l (k+1)).m:=by rw[K]
     have e3:scE (scS l k).s=scE (scS l (k+1)).s:=by rw[K]
     have e4:(scS l k).L.length=(scS l (k+1)).L.length:=by rw[K]
     refine gq ?_;refine yr (k+1) (hI:=kW)
 ·have k4:k=l.length:=aa
  subst k4;refine gd ?_ ?_<;>intro k3
  ·apply yd;(iterate 2 refine ya ?_);refine bX hY rfl rfl rfl (bK _) rfl rfl (zCs aa) rfl (λb=>?_);apply bD;refine⟨.inl rfl,_,b,rfl,λh=>by rw[h,zrL aa];rfl⟩
  ·apply yf;refine⟨.inl rfl,_,true,rfl,λ_=>(zrM aa).symm⟩
end Go.Rse
namespace Go.Rse
open Go Go.RowKit Go.Proofs.Tryz
def ExS(P:Program)(C:Ctx)(ops:Array Oper)(l:List Nat)(u:FrameMode)(st:St)(Q:FrameMode->Exit->St->Prop):Prop:=∀g a w,Rel C st g a w->∀(c0:Frame)(cs:List Frame),c0.mode=u->wpOpsSIn Fence.wide 0 P ops (zpJ C c0 cs Q) l a (c0::cs) w
section
variable{P:Program}{C:Ctx}{st:St}{Q:FrameMode->Exit->St->Prop}{u:FrameMode}{ops:Array Oper}{i:Nat}{l:List Nat}
variable{id:Nat}{n:Next}{ty:TypeId}{x:Operand}{ys:List AV}{zs:Array Value}{α:Type}{f:α->Next}{m:Sem α}
def ExS.nil(h:Q u .normal st):ExS P C ops [] u st Q:=λg a w hr c0 cs N=>⟨u,st,g,by rw[←N],hr,h⟩
def zo3{w w':World}(h:(m>>=λx=>(pure (f x):Sem Next)).run P w=.ok n w'):∃x,n=f x:=by
 rw[jM]at h;cases hm:m.run P w<;>simp[hm,Result.andThen]at h;exact⟨_,h.1.symm⟩
def OpN(op:Op):Prop:=∀(ρ:Operand->Value)dst ty pos af gd(P:Program)w n w',(execOp ρ {dst:=dst,op:=op,type:=ty,pos:=pos,after:=af,guard:=gd}).run P w=.ok n w'->n=.skip\/∃x,n=.value x
def zkj(T:TypeId):OpN (.alloc T):=λρ dst ty pos af gd P w n w' h=>.inr (zo3 h)
def zqd(T:TypeId)(x y:Operand):OpN (.store T x y):=λρ dst ty pos af gd P w n w' h=>.inl (zo3 h).choose_spec
def zkk{st':St}{dst:Option Tmp}{op:Op}{ty:TypeId}{pos:String}{af:Array Edge}(h:ExS P C ops l u st' Q)(ho:ops[i]? =some {dst:=dst,op:=op,type:=ty,pos:=pos,after:=af,guard:=none}:=by rfl)(K:OpN op:=by first|exact zkj _|exact zqd _ _ _)(hs:yu P C op ty dst st st':=by first|exact yW (zd ZcK.h) rfl rfl|exact zav rfl rfl rfl rfl TyK.h rfl (leB rfl)|exact zX rfl rfl rfl rfl TyK.h (ltB rfl)):ExS P C ops (i::l) u st Q:=λg a w hr c0 cs H=>by
 have:=hs g a w pos af none hr (λa' w'=>wpOpsSIn Fence.wide 0 P ops (zpJ C c0 cs Q) l a' (c0::cs) w') (λa' w' g' N=>h g' a' w' N c0 cs H);unfold wp1 zbH at this;simp only[wpOpsSIn,ho];refine⟨λ_ _=>trivial,?_⟩;simp only[Region.wanted,if_true];have hn:=K a.eval dst ty pos af none P w;revert this hn;generalize(execOp a.eval {dst:=dst,op:=op,type:=ty,pos:=pos,after:=af,guard:=none}).run P w=r;intro h1 G;cases r with
 |ok n w'=>
  rcases G n w' rfl with rfl|⟨x,rfl⟩<;>exact h1
 |_=>exact h1.elim
def ExS.al{d:Nat}{T:TypeId}{ty:TypeId}{pos:String}{af:Array Edge}{cs:List AV}[N:ZcK P T cs](h:ExS P C ops l u (addSt st (some d) (.ptr d 0 0 0) (some (d,.box cs T))) Q)(ho:ops[i]? =some {dst:=some d,op:=.alloc T,type:=ty,pos:=pos,after:=af,guard:=none}:=by rfl)(K:dOk C.n (some d)=true:=by rfl)(hn:nbOk st (some (d,.box cs T))=true:=by rfl):ExS P C ops (i::l) u st Q:=
 zkk h ho (zkj _) (yW (zd N.h) K hn)
def znM{d:Nat}{op:Op}{ty:TypeId}{pos:String}{af:Array Edge}{x:AV}(h:ExS P C ops l u ⟨(d,x)::st.t,st.h⟩ Q)(ho:ops[i]? =some {dst:=some d,op:=op,type:=ty,pos:=pos,after:=af,guard:=none}:=by rfl)(hs:Pur P C op ty st x:=by exact yU)(K:d.blt C.n=true:=by rfl):ExS P C ops (i::l) u st Q:=λg a w hr c0 cs H=>by
 obtain⟨v,e,G⟩:=hs g a w (some d) pos af none hr;have N:=hr.addSt (d:=some d) (nb:=none) (x:=x) (v:=v) (Add.refl _ g w) K rfl G hr.sat.im hr.sat.ob (λ_ _ h=>by cases h);simp only[wpOpsSIn,ho];refine⟨λ_ _=>trivial,?_⟩;simp only[Region.wanted,if_true,e];exact h g _ w N c0 cs H
def zut{t:Nat}{ts:Array TypeId}{ty:TypeId}{pos:String}{af:Array Edge}(h:ExS P C ops l .returning ⟨(t,.val .nilIface)::st.t,st.h⟩ Q)(ho:ops[i]? =some {dst:=some t,op:=.call {callee:=.builtin .recover,args:= #[],argTypes:=ts},type:=ty,pos:=pos,after:=af,guard:=none}:=by rfl)(ht:t.blt C.n=true:=by rfl):ExS P C ops (i::l) .returning st Q:=λg a w hr c0 cs G=>by
 have K:t<a.tmps.size:=by rw[hr.size];simpa using ht
 have H:Rel C ⟨(t,.val .nilIface)::st.t,st.h⟩ g (a.put (some t) .nilIface) w:=by
  refine⟨by simp[Act.put,hr.size],hr.defers,λt' x N=>?_,hr.sat,hr.ext⟩;show RV g.I g.ρ x ((a.put (some t) .nilIface).tmps.getD t' undef);rw[zaS K];simp only[ym]at N;by_cases e:t=t'
  ·subst e;simp at N;subst N;rw[j7 rfl];exact .val _
  ·rw[j8 e];have:t.beq t'=false:=beqF.2 e;simp[this]at N;exact hr.tmps t' x N
 have e1:(execOp a.eval {dst:=some t,op:=.call {callee:=.builtin .recover,args:= #[],argTypes:=ts},type:=ty,pos:=pos,after:=af,guard:=none}).run P w=.ok .recover w:=by
  simp[execOp,resolve,invoke,builtin]
 have e3:recoverD (c0::cs)=none:=by simp[recoverD,G]
 simp only[wpOpsSIn,ho];refine⟨λ_ _=>trivial,?_⟩;simp only[Region.wanted,if_true,e1,e3];exact h g _ w H c0 cs G
def XS.region(h:ExS P C ops (List.range ops.size) u st Q):XS P C (.region id ops false) u st Q:=λg a w hr c0 cs N=>wpSIn_region (h g a w hr c0 cs N)
def zjZ{t xT:TypeId}(hx:ev st x=some (.val .nilIface))(H:∃fs,P.underlying t=some (.struct fs))(hz:(P.info? t).bind (·.zero)=some (.agg zs))(N:cvL zs.toList=some ys):Pur P C (.typeAssert x xT t true) ty st (.tup [.agg ys,.bool false]):=λg a w dst pos af gd hr=>by
 have e:=zac (yq hr hx);obtain⟨fs,H⟩:=H;obtain⟨h1,G⟩:=zfH (I:=g.I) (ρ:=g.ρ) N;refine⟨.tuple #[.agg zs,.bool false],?_,?_⟩
 ·cases hi:P.info? t<;>simp_all[execOp,Instr.typeAssert,run_underlying H,zeroValue,typeInfo]
 ·exact RV.tup [.agg ys,.bool false] [.agg zs,.bool false] rfl λj c v N K=>by
   match j with
   |0=>
    simp at N K;subst N;subst K;exact RV.agg ys zs.toList (ao h1) G
   |1=>simp at N K;subst N;subst K;exact .bool _
   |j+2=>simp at N
end
end Go.Rse
