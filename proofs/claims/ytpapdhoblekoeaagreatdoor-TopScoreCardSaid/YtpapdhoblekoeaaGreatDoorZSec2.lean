/-
  Walks.
-/
import Derived.Test.YtpapdhoblekoeaaGreatDoorZJRse49
set_option linter.all false
set_option maxHeartbeats 4000000
namespace Go.Rse
open Go Go.Proofs Go.Proofs.Tryz
variable{F j:Nat}{l:List Sg}{n:Nat}{x:Sg}{α:Type}
def rcK(l:List Sg)(F:Nat):Nat->List Sg×List Int
 |0=>([],[])
 |n+1=>match l[F+n]? with
  |some x=>if clS x.Kind=1\/clS x.Kind=2 then((rcK l F n).1++[x],(rcK l F n).2++[((F+n:Nat):Int)])else rcK l F n
  |none=>rcK l F n
def rcV(l:List Sg)(s:Sc):List Sg:=(rcK l s.F.toNat (s.T-s.F).toNat).1
def rcI(l:List Sg)(s:Sc):List Int:=(rcK l s.F.toNat (s.T-s.F).toNat).2
def zmh(l:List Sg)(F:Nat):∀n,(rcK l F n).1.length<=n/\(rcK l F n).2.length<=n
 |0=>⟨jG _,jG _⟩
 |n+1=>by
  have:=zmh l F n;rw[rcK];split
  ·split
   ·simp only[jJ,uI];omega
   ·omega
  ·omega
def zDI(h:l[F+n]? =some x)(c:clS x.Kind=1\/clS x.Kind=2):(rcK l F n).1++[x]=(rcK l F (n+1)).1/\(rcK l F n).2++[((F+n:Nat):Int)]=(rcK l F (n+1)).2:=by
 rw[rcK,h];dsimp only;rw[j7 c];exact⟨rfl,rfl⟩
def zDJ(h:l[F+n]? =some x)(c:¬(clS x.Kind=1\/clS x.Kind=2)):(rcK l F n).1=(rcK l F (n+1)).1/\(rcK l F n).2=(rcK l F (n+1)).2:=by
 rw[rcK,h];dsimp only;rw[j8 c];exact⟨rfl,rfl⟩
def zjN{l:List α}{x:α}(h:l[j]? =some x):l.take j++[x]=l.take (j+1):=by rw[jK,h];rfl
attribute [local irreducible] Pur yy yu Ex X Fn Imp LeV LeB FnO It yA FnW FnOW FnP FnD ExS XS
attribute [local irreducible] ufS clS ckM nmQ bsB scS scV scX rcK
def zfP(s:ByteArray)(l:List Sg)(V:List Sc):FnD prog 148 [.ptr 2000002 0 0 0,.ptr 2000003 0 0 0,.ptr 2000004 0 0 0] [(2000002,.box [.str s,sgsA l] 26),(2000003,.box [scsA V] 168),(2000004,.box [iv 0] 29)] [2000002,2000003,2000004] (.returning) (.returning) [(2000002,.box [.str s,sgsA l] 26),(2000003,.box [scsA V] 168),(2000004,.box [iv 0] 29)]:=by
 refine FnD.intro (ts:=[(0,.ptr 2000002 0 0 0),(1,.ptr 2000003 0 0 0),(2,.ptr 2000004 0 0 0)]) (n:=15) (cs:=[.ptr 2000002 0 0 0,.ptr 2000003 0 0 0,.ptr 2000004 0 0 0]) ae func148 rfl ntmps148 rfl ah rfl ah rfl rfl rfl (λg w d vs=>?_);refine XS.seq ?_;refine XS.region ?_;refine zut ?_;refine znM (hs:=by exact zjZ (zs:= #[.int .i64 0,.int .i64 0]) rfl ⟨_,Tryz.underlying296⟩ ae rfl) ?_;iterate 3 refine znM ?_
 refine ExS.al ?_;refine zkk ?_;refine znM ?_;refine ExS.nil ?_;refine XS.of ?_;refine gd ?_ ?_<;>intro Q
 ·cases Q
 apply yf;exact⟨rfl,.inl rfl,[],[],yh⟩
set_option maxRecDepth 9999 in
def zeG(s:ByteArray)(z:List Sg)(N:PtK s z)(hok:ScOk z):Fn prog 104 [.agg [.str s,sgsA z]] (.tup [.agg [.str s,sgsA z],scsA (scV z),iv 0]):=by
 have hl:=N.hl;have xT:=zeO z;refine zkD (ts:=[(0,.agg [.str s,sgsA z])]) (n:=25) ae func104 rfl ntmps104 rfl rfl ah (λg w d=>?_);refine XW.seq ?_;apply yd;refine zl ?_;iterate 3 refine yP ?_
 apply bD;refine XW.seq ?_;refine gq ?_;refine zf (zg2 s z N) ?_;iterate 3 refine ya ?_
 iterate 2 refine bF ?_
 apply bD;refine XW.seq ?_;refine gd ?_ ?_<;>intro K
 ·exact absurd K ac
 apply yf;refine XW.defer 20 (λus=>?_);refine XW.of ?_;iterate 2 apply ye
 refine yl (zK scE 173 8 3 40 168 rfl rfl) ?_;refine gq ?_;refine zf (zfA s z) ?_;apply bD;apply kX;have x2:[]=(scV z).take 0:=ah
 have G:(scV z).take (scX z).length=scV z:=by unfold scX;rw[jD,jR]
 refine bV (sl:=[2,3,4]) (λj=>([.ptr 2 0 0 0,.ptr 3 0 0 0,.ptr 4 0 0 0],[(20,.hold us.toList [.ptr 2 0 0 0,.ptr 3 0 0 0,.ptr 4 0 0 0]),(2,.box [.str s,sgsA z] 26),(3,.box [.own 40] 168),(4,.box [iv 0] 29),(40,.row scE ((scV z).take j) 173 8)])) (λj=>True) 900001 900002 rfl rfl ac (λj zs Q=>by obtain⟨i,_,rfl⟩:=zlG Q;rfl) (zek s z N hok) trivial rfl rfl ac (jU _) ah (λj zs Q=>by obtain⟨i,_,rfl⟩:=zlG Q;rfl) (λ_=>rfl) rfl rfl (λl o us=>yh) (trivial) (λj zs Q hJ l ready busy rb vs g w hb x1=>?_) (λhJ=>?_)
 ·have E:=zlG Q;obtain⟨i,hi,rfl⟩:=E;have x0:=zjN hi;have w2:((scV z).take j).length<=1000:=by rw[jO];omega
  apply yd;refine yP ?_;refine bF ?_;apply bD;refine⟨rfl,rfl,?_⟩;refine gq ?_;refine yH scE [i] ?_;iterate 2 refine bF ?_
  apply bD;refine⟨[.ptr 2 0 0 0,.ptr 3 0 0 0,.ptr 4 0 0 0],[(20,.hold us.toList [.ptr 2 0 0 0,.ptr 3 0 0 0,.ptr 4 0 0 0]),(2,.box [.str s,sgsA z] 26),(3,.box [.own 40] 168),(4,.box [iv 0] 29),(40,.row scE ((scV z).take (j+1)) 173 8)],yh,rfl,trivial⟩
 rw[G];apply ye;refine yl (st':=⟨[(2,.ptr 2 0 0 0),(3,.ptr 3 0 0 0),(4,.ptr 4 0 0 0)],[(20,.hold us.toList [.ptr 2 0 0 0,.ptr 3 0 0 0,.ptr 4 0 0 0]),(2,.box [.str s,sgsA z] 26),(3,.box [scsA (scV z)] 168),(4,.box [iv 0] 29)]⟩) ((kY (k:=40) rfl).trans yh) ?_;refine zY [⟨0,23,.agg [.str s,sgsA z],[]⟩,⟨1,24,scsA (scV z),[]⟩] [(2,[0]),(3,[0,2,1]),(4,[2,1,0,3])] (let T:=[(2,.ptr 2 0 0 0),(3,.ptr 3 0 0 0),(4,.ptr 4 0 0 0)];let H:=[(20,.hold us.toList [.ptr 2 0 0 0,.ptr 3 0 0 0,.ptr 4 0 0 0]),(2,.box [.str s,sgsA z] 26),(3,.box [scsA (scV z)] 168),(4,.box [iv 0] 29)];λj=>match j with|0=>⟨T,H⟩|1=>⟨T,H⟩|2=>⟨T,H⟩|_=>⟨T,H⟩) mo (zP (yh)) (λj Q=>?_) ⟨λβ=>Co2 rfl (zav rfl rfl rfl rfl TyK.h rfl (leB rfl)),λβ=>Co2 rfl (zX rfl rfl rfl rfl TyK.h ah),λβ=>Co2 rfl (zX rfl rfl rfl rfl TyK.h ah),trivial⟩ ?_
 ·rcases j with _|_|_|_|j
  ·exact yE
  ·exact yE
  ·exact yE
  ·exact yE
  ·exact absurd (show j+4<=3 from Q) aa
 refine bC ?_;refine zda (kD:=20) (rv:=[.cell 2 26,.cell 3 168,.cell 4 29]) [(2000002,2),(2000003,3),(2000004,4)] (zfP s z (scV z)) (.inl ⟨rfl,rfl⟩) rfl rfl Imp.refl rfl (bK _) (.many ac (.cons (.cellA rfl rfl rfl rfl TyK.h (bM _)) (.cons (.cellS rfl rfl rfl TyK.h (bM _)) (.cons (.cellS rfl rfl rfl TyK.h (bM _)) .nil)))) rfl rfl rfl (by repeat'(first|exact True.intro|refine And.intro ⟨_,_,rfl,rfl,bN _,rfl⟩ ?_)) rfl rfl rfl
def zab(s:ByteArray)(l:List Sg)(h:PtK s l)(hok:ScOk l):Fn prog 55 [.agg [.str s,sgsA l]] (.tup [scsA (scV l),iv 0]):=by
 refine bB func55 ntmps55 (λg w d=>?_);refine gc (zeG s l h hok) ?_;refine yn ?_ ?_;all_goals exact zR
def zfq(s:ByteArray)(l:List Sg)(h:PtK s l)(hok:ScOk l)(k:Nat)(c:Sc)(hk:(scV l)[k]? =some c):Fn prog 57 [.agg [.str s,sgsA l],iv (k:Int)] (.tup [sgsA (rcV l c),yj (rcI l c),iv 0]):=by
 have hl:=h.hl;have E:=zrN l c (j6 hk);have v5:=E.f;have v4:=E.t;have v3:=E.n;have v2:=(j5.1 hk).1;have v1:(scV l)[(k:Int).toNat]? =some c:=ao hk
 obtain⟨f,hf⟩:∃f:Nat,c.F=(f:Int):=⟨c.F.toNat,aa⟩;obtain⟨N,hN⟩:∃N:Nat,c.T=(f:Int)+(N:Int):=⟨(c.T-c.F).toNat,aa⟩;have Q:rcV l c=(rcK l f N).1:=by unfold rcV;rw[show c.F.toNat=f by omega,show(c.T-c.F).toNat=N by omega]
 have K:rcI l c=(rcK l f N).2:=by unfold rcI;rw[show c.F.toNat=f by omega,show(c.T-c.F).toNat=N by omega]
 have z1:[]=(rcK l f 0).1:=by unfold rcK;rfl
 have z2:[]=(rcK l f 0).2:=by unfold rcK;rfl
 refine bB func57 ntmps57 (λg w d=>?_);refine gc (zeG s l h hok) ?_;refine gd ?_ ?_<;>intro xT
 ·exact absurd xT ac
 apply yf;apply ye;apply yc;iterate 2 refine ya ?_
 refine bI 2 ?_;refine yw ?_;iterate 4 refine bE ?_
 refine gf ?_ ?_<;>intro x2
 ·exact absurd x2 aa
 apply yf;apply yc;refine ya ?_;apply yp;refine yk ?_;iterate 2 apply ye
 refine yl ((yz sgE 69 17 10 30 rfl rfl).trans (yz intE 3 1 11 31 rfl rfl)) ?_;apply yd;iterate 5 refine ya ?_
 refine yk ?_;apply kX;refine y9 [1,7,8,10,11] (λn zz=>(12,iv ((f+n:Nat):Int))::zz) [7] (λn zz=>(30,.row sgE (rcK l f n).1 69 17)::(31,.row intE (rcK l f n).2 3 1)::zz) N (λn hk=>?_);refine gd ?_ ?_<;>intro v0
 ·obtain⟨x,hx⟩:∃x,l[f+n]? =some x:=⟨_,lgg aa⟩;have k9:l[((f+n:Nat):Int).toNat]? =some x:=by rw[jN];exact hx
  have x1:=h.at hx;have x0:=zmh l f n;obtain⟨q1,q2⟩:=x0;refine gq ?_;refine zf (zdW x x1.1) ?_;refine ya ?_;apply yp;iterate 2 refine ya ?_
  refine bI 2 ?_;refine yw ?_;iterate 2 refine bE ?_
  refine gf ?_ ?_<;>intro w2
  ·have v9:=zDI hx w2;obtain⟨H,G⟩:=v9;refine gq ?_;refine yH sgE [x] ?_;refine gq ?_;refine yH intE [((f+n:Nat):Int)] ?_;refine gq ?_;refine yr (n+1) (hI:=kW)
  ·have v8:=zDJ hx aa;obtain⟨H,G⟩:=v8;refine gq ?_;refine yr (n+1) (hI:=kW)
 ·obtain rfl:n=N:=aa
  apply bH;apply yc;iterate 2 refine ya ?_
  refine yo ?_;refine bC ?_;refine yi ((kY (k:=30) rfl).trans (kY (k:=31) rfl)) ?_;refine bJ (.many ac (.cons (.tmp rfl (kZ ?_)) (.cons (.tmp rfl (kZ ?_)) (.cons (.tmp rfl (kZ ?_)) .nil))));all_goals(first|(rw[Q,K];rfl)|exact zE Q|exact zE K|rfl)
end Go.Rse
