/-
  Walks.
-/
import Derived.Test.YtamceaedmdmmlaaGreatDoorZJLvl15
set_option linter.all false
set_option maxHeartbeats 4000000
namespace Go.Rse
open Go Go.Proofs Go.Proofs.Tryz
attribute [local irreducible] Pur yy yz Ex X Fn Imp LeV LeB FnO It yH FnW FnOW
section
instance:ZcK prog 321 [.nilf,.int .i64 0,.int .i64 0]:=⟨⟨_,zDn,rfl⟩⟩
def ziX{L A:List Int}{j:Nat}{c:Int}(Z:L[j]? =some c)(V:c∈A)(h:∀i:Nat,i<j->∀d,L[i]? =some d->d∉A):L.find? (λc=>decide (c∈A))=some c:=by
 rw[List.find?_eq_some_iff_append];refine⟨by simpa using V,L.take j,L.drop (j+1),?_,λa U=>?_⟩
 ·have hl:=(j5.1 Z);rw[←hl.2,List.getElem_cons_drop,wB]
 ·obtain⟨i,hi,e⟩:=List.getElem_of_mem U;rw[jO]at hi;have:=h i (by omega) a (by rw[←e,List.getElem_take,lgg]);simpa using this
def zgL{L A:List Int}(h:∀i:Nat,i<L.length->∀d,L[i]? =some d->d∉A):L.find? (λc=>decide (c∈A))=none:=by
 rw[List.find?_eq_none];intro c Z;obtain⟨i,hi,e⟩:=List.getElem_of_mem Z;have:=h i hi c (by rw[←e,lgg]);simpa using this
def zgM{L A:List Int}{j:Nat}{c:Int}(V:L[j]? =some c)(U:c∉A)(h:∀i:Nat,i<j->∀d,L[i]? =some d->d∉A):∀i:Nat,i<j+1->∀d,L[i]? =some d->d∉A:=by
 intro i hi d Z;by_cases e:i=j
 ·subst e;rw[V]at Z;injection Z with Z;subst Z;exact U
 ·exact h i (by omega) d Z
def zrE(p:Int->Bool)(a:Int):[a,a].find? p=[a].find? p:=by
 simp only[List.find?];cases p a<;>rfl
def zb1(s:Sgm)(n:Int)(hN:0<=s.Count.N):Fn prog 291 [smA s,.ept (λ_:Unit=>[iv n]) () 0] (.bool (decide (s.Count.N%3=n))):=by
 refine kR func291 ntmps291 (λg w d=>?_);refine gq ?_;all_goals exact zR
def zcR(n:Int):Fn prog 290 [iv n] (.fn 291 [.ept (λ_:Unit=>[iv n]) () 0]):=by
 refine kR func290 ntmps290 (λg w d=>?_);apply ye;refine ze0 ?_;refine ya ?_;apply yE;refine yQ ?_;refine kQ ?_;refine kM (yY (k:=1) rfl rfl) ?_;refine gq ?_;all_goals exact zR
def ziY(s:Sgm):Fn prog 292 [smA s] (.bool s.Free):=by
 refine kR func292 ntmps292 (λg w d=>?_);refine gq ?_;all_goals exact zR
def ziZ(s:Sgm):Fn prog 293 [smA s] (.bool (decide (s.Count.N=2))):=by
 refine kR func293 ntmps293 (λg w d=>?_);refine gq ?_;all_goals exact zR
def zlF:Fn prog 258 [] (.agg [.fn 292 [],iv 1,iv 0,.fn 291 [.ept (λ_:Unit=>[iv 0]) () 0],iv 0,iv 0,.fn 291 [.ept (λ_:Unit=>[iv 1]) () 0],iv 1,iv 2,.fn 293 [],iv 4,iv 3,.fn 291 [.ept (λ_:Unit=>[iv 2]) () 0],iv 3,iv 4]):=by
 refine kR func258 ntmps258 (λg w d=>?_);refine gc (zcR 0) ?_;refine gc (zcR 1) ?_;refine gc (zcR 2) ?_;refine kY (.one (.cellA rfl rfl rfl rfl zw6 (kO ?_)));all_goals exact zR
attribute [local irreducible] chF wnL
def zj1(s:Sgm)(A:List Int)(hN:0<=s.Count.N)(hA:A.length<=1000000):Fn prog 225 [smA s,yc A] (.tup [iv ((chF s A).getD 0),.bool (chF s A).isSome]):=by
 refine kR func225 ntmps225 (λg w d=>?_);refine gq ?_;refine yR zlF ?_;refine yj ?_;apply kP;refine zW (λn=>[(1,yc A),(2,.ptr 2 0 0 0),(4,iv 0),(5,.bool false),(10,.agg [.fn 292 [],iv 1,iv 0,.fn 291 [.ept (λ_:Unit=>[iv 0]) () 0],iv 0,iv 0,.fn 291 [.ept (λ_:Unit=>[iv 1]) () 0],iv 1,iv 2,.fn 293 [],iv 4,iv 3,.fn 291 [.ept (λ_:Unit=>[iv 2]) () 0],iv 3,iv 4]),(11,iv (n:Int))]) (λn=>[(2,.box (smE s) 260)]) (λn=>n<=5/\(1<=n->¬s.Free=true)/\(2<=n->¬s.Count.N%3=0)/\(3<=n->¬s.Count.N%3=1)/\(4<=n->¬s.Count.N=2)/\(5<=n->¬s.Count.N%3=2)) 5 (λn hk=>?_) (hJ:=by exact⟨by omega,by omega,by omega,by omega,by omega,by omega⟩) (h0:=yd);obtain⟨v1,T,x4,x3,x1,x2⟩:=hk;refine gd ?_ ?_<;>intro v0
 ·apply yk;apply yh;apply kP;apply yh;obtain hn|hn|hn|hn|hn:n=0\/n=1\/n=2\/n=3\/n=4:=by omega
  ·have J:(([.fn 292 [],iv 1,iv 0,.fn 291 [.ept (λ_:Unit=>[iv 0]) () 0],iv 0,iv 0,.fn 291 [.ept (λ_:Unit=>[iv 1]) () 0],iv 1,iv 2,.fn 293 [],iv 4,iv 3,.fn 291 [.ept (λ_:Unit=>[iv 2]) () 0],iv 3,iv 4]:List AV).drop (((n:Nat):Int).toNat*3)).take 3=[.fn 292 [],iv 1,iv 0]:=by rw[hn];rfl
   apply yf;refine ya (hs:=by exact zI ArK.h TyK.h rfl rfl (by omega) (by omega) J) ?_;refine gc (ziY s) ?_;refine gd ?_ ?_<;>intro G
   ·have u4:¬s.Free=true:=by first|exact G|(rw[G];decide)|(simp at G;simp[G];done)|omega
    refine gq ?_
    refine yu (n+1) (hJ:=by
     refine⟨by omega,?_,?_,?_,?_,?_⟩<;>intro h6<;>first|assumption|(exact absurd h6 (by omega))|(exact T (by omega))|(exact x4 (by omega))|(exact x3 (by omega))|(exact x1 (by omega))|(exact x2 (by omega)))
   have hy:s.Free=true:=by first|exact G|(simp at G;exact G)|omega
   have hW:(wnL s).find? (λc=>decide (c∈A))=[(1:Int),0].find? (λc=>decide (c∈A)):=by
    have h0:=T;rw[show wnL s=[1,0]by unfold wnL;simp_all]
   refine gq ?_;refine yD intE [_,_] ?_;refine yQ ?_;apply kP;refine zW (λj=>[(1,yc A),(2,.ptr 2 0 0 0),(4,iv 0),(5,.bool false),(10,.agg [.fn 292 [],iv 1,iv 0,.fn 291 [.ept (λ_:Unit=>[iv 0]) () 0],iv 0,iv 0,.fn 291 [.ept (λ_:Unit=>[iv 1]) () 0],iv 1,iv 2,.fn 293 [],iv 4,iv 3,.fn 291 [.ept (λ_:Unit=>[iv 2]) () 0],iv 3,iv 4]),(11,iv (n:Int)),(23,.own 23),(24,iv 2),(25,iv (j:Int))]) (λj=>[(2,.box (smE s) 260),(23,.row intE [1,0] 3 1)]) (λj=>j<=2/\∀i:Nat,i<j->∀d,([1,0]:List Int)[i]? =some d->d∉A) 2 (λj hk=>?_) (hJ:=by exact⟨by omega,λi hi=>absurd hi (by omega)⟩) (h0:=yd);obtain⟨w9,Z⟩:=hk;refine gd ?_ ?_<;>intro u3
   ·obtain⟨x,hx⟩:∃x,([1,0]:List Int)[j]? =some x:=⟨_,lgg (by simp;omega)⟩;have x0:([1,0]:List Int)[(j:Int).toNat]? =some x:=by simpa using hx
    refine gc (yV A x (by omega)) ?_;refine gd ?_ ?_<;>intro v5
    ·have hE:chF s A=some x:=by unfold chF;rw[hW];exact ziX hx (by simpa using v5) Z
     refine gq ?_;refine yl ?_ ?_;all_goals exact zE hE
    refine gq ?_;refine yu (j+1) (hJ:=by exact⟨by omega,zgM hx (by simpa using v5) Z⟩)
   ·have H:j=2:=by omega
    subst H;have hE:chF s A=none:=by unfold chF;rw[hW];exact zgL Z
    refine gq ?_;refine yl ?_ ?_;all_goals exact zE hE
  ·have J:(([.fn 292 [],iv 1,iv 0,.fn 291 [.ept (λ_:Unit=>[iv 0]) () 0],iv 0,iv 0,.fn 291 [.ept (λ_:Unit=>[iv 1]) () 0],iv 1,iv 2,.fn 293 [],iv 4,iv 3,.fn 291 [.ept (λ_:Unit=>[iv 2]) () 0],iv 3,iv 4]:List AV).drop (((n:Nat):Int).toNat*3)).take 3=[.fn 291 [.ept (λ_:Unit=>[iv 0]) () 0],iv 0,iv 0]:=by rw[hn];rfl
   apply yf;refine ya (hs:=by exact zI ArK.h TyK.h rfl rfl (by omega) (by omega) J) ?_;refine gc (zb1 s 0 hN) ?_;refine gd ?_ ?_<;>intro E
   ·have u2:¬s.Count.N%3=0:=by first|exact E|(rw[E];decide)|(simp at E;simp[E];done)|omega
    refine gq ?_
    refine yu (n+1) (hJ:=by
     refine⟨by omega,?_,?_,?_,?_,?_⟩<;>intro h6<;>first|assumption|(exact absurd h6 (by omega))|(exact T (by omega))|(exact x4 (by omega))|(exact x3 (by omega))|(exact x1 (by omega))|(exact x2 (by omega)))
   have hy:s.Count.N%3=0:=by first|exact E|(simp at E;exact E)|omega
   have hW:(wnL s).find? (λc=>decide (c∈A))=[(0:Int),0].find? (λc=>decide (c∈A)):=by
    have h0:=T;rw[zrE,show wnL s=[0]by unfold wnL;simp_all]
   refine gq ?_;refine yD intE [_,_] ?_;refine yQ ?_;apply kP;refine zW (λj=>[(1,yc A),(2,.ptr 2 0 0 0),(4,iv 0),(5,.bool false),(10,.agg [.fn 292 [],iv 1,iv 0,.fn 291 [.ept (λ_:Unit=>[iv 0]) () 0],iv 0,iv 0,.fn 291 [.ept (λ_:Unit=>[iv 1]) () 0],iv 1,iv 2,.fn 293 [],iv 4,iv 3,.fn 291 [.ept (λ_:Unit=>[iv 2]) () 0],iv 3,iv 4]),(11,iv (n:Int)),(23,.own 23),(24,iv 2),(25,iv (j:Int))]) (λj=>[(2,.box (smE s) 260),(23,.row intE [0,0] 3 1)]) (λj=>j<=2/\∀i:Nat,i<j->∀d,([0,0]:List Int)[i]? =some d->d∉A) 2 (λj hk=>?_) (hJ:=by exact⟨by omega,λi hi=>absurd hi (by omega)⟩) (h0:=yd);obtain⟨w9,Z⟩:=hk;refine gd ?_ ?_<;>intro u1
   ·obtain⟨x,hx⟩:∃x,([0,0]:List Int)[j]? =some x:=⟨_,lgg (by simp;omega)⟩;have x0:([0,0]:List Int)[(j:Int).toNat]? =some x:=by simpa using hx
    refine gc (yV A x (by omega)) ?_;refine gd ?_ ?_<;>intro v4
    ·have hE:chF s A=some x:=by unfold chF;rw[hW];exact ziX hx (by simpa using v4) Z
     refine gq ?_;refine yl ?_ ?_;all_goals exact zE hE
    refine gq ?_;refine yu (j+1) (hJ:=by exact⟨by omega,zgM hx (by simpa using v4) Z⟩)
   ·have H:j=2:=by omega
    subst H;have hE:chF s A=none:=by unfold chF;rw[hW];exact zgL Z
    refine gq ?_;refine yl ?_ ?_;all_goals exact zE hE
  ·have J:(([.fn 292 [],iv 1,iv 0,.fn 291 [.ept (λ_:Unit=>[iv 0]) () 0],iv 0,iv 0,.fn 291 [.ept (λ_:Unit=>[iv 1]) () 0],iv 1,iv 2,.fn 293 [],iv 4,iv 3,.fn 291 [.ept (λ_:Unit=>[iv 2]) () 0],iv 3,iv 4]:List AV).drop (((n:Nat):Int).toNat*3)).take 3=[.fn 291 [.ept (λ_:Unit=>[iv 1]) () 0],iv 1,iv 2]:=by rw[hn];rfl
   apply yf;refine ya (hs:=by exact zI ArK.h TyK.h rfl rfl (by omega) (by omega) J) ?_;refine gc (zb1 s 1 hN) ?_;refine gd ?_ ?_<;>intro xT
   ·have x0:¬s.Count.N%3=1:=by first|exact xT|(rw[xT];decide)|(simp at xT;simp[xT];done)|omega
    refine gq ?_
    refine yu (n+1) (hJ:=by
     refine⟨by omega,?_,?_,?_,?_,?_⟩<;>intro h6<;>first|assumption|(exact absurd h6 (by omega))|(exact T (by omega))|(exact x4 (by omega))|(exact x3 (by omega))|(exact x1 (by omega))|(exact x2 (by omega)))
   have hy:s.Count.N%3=1:=by first|exact xT|(simp at xT;exact xT)|omega
   have hW:(wnL s).find? (λc=>decide (c∈A))=[(1:Int),2].find? (λc=>decide (c∈A)):=by
    have h0:=T;rw[show wnL s=[1,2]by unfold wnL;simp_all]
   refine gq ?_;refine yD intE [_,_] ?_;refine yQ ?_;apply kP;refine zW (λj=>[(1,yc A),(2,.ptr 2 0 0 0),(4,iv 0),(5,.bool false),(10,.agg [.fn 292 [],iv 1,iv 0,.fn 291 [.ept (λ_:Unit=>[iv 0]) () 0],iv 0,iv 0,.fn 291 [.ept (λ_:Unit=>[iv 1]) () 0],iv 1,iv 2,.fn 293 [],iv 4,iv 3,.fn 291 [.ept (λ_:Unit=>[iv 2]) () 0],iv 3,iv 4]),(11,iv (n:Int)),(23,.own 23),(24,iv 2),(25,iv (j:Int))]) (λj=>[(2,.box (smE s) 260),(23,.row intE [1,2] 3 1)]) (λj=>j<=2/\∀i:Nat,i<j->∀d,([1,2]:List Int)[i]? =some d->d∉A) 2 (λj hk=>?_) (hJ:=by exact⟨by omega,λi hi=>absurd hi (by omega)⟩) (h0:=yd);obtain⟨w9,Z⟩:=hk;refine gd ?_ ?_<;>intro k9
   ·obtain⟨x,hx⟩:∃x,([1,2]:List Int)[j]? =some x:=⟨_,lgg (by simp;omega)⟩;have x0:([1,2]:List Int)[(j:Int).toNat]? =some x:=by simpa using hx
    refine gc (yV A x (by omega)) ?_;refine gd ?_ ?_<;>intro w2
    ·have hE:chF s A=some x:=by unfold chF;rw[hW];exact ziX hx (by simpa using w2) Z
     refine gq ?_;refine yl ?_ ?_;all_goals exact zE hE
    refine gq ?_;refine yu (j+1) (hJ:=by exact⟨by omega,zgM hx (by simpa using w2) Z⟩)
   ·have H:j=2:=by omega
    subst H;have hE:chF s A=none:=by unfold chF;rw[hW];exact zgL Z
    refine gq ?_;refine yl ?_ ?_;all_goals exact zE hE
  ·have J:(([.fn 292 [],iv 1,iv 0,.fn 291 [.ept (λ_:Unit=>[iv 0]) () 0],iv 0,iv 0,.fn 291 [.ept (λ_:Unit=>[iv 1]) () 0],iv 1,iv 2,.fn 293 [],iv 4,iv 3,.fn 291 [.ept (λ_:Unit=>[iv 2]) () 0],iv 3,iv 4]:List AV).drop (((n:Nat):Int).toNat*3)).take 3=[.fn 293 [],iv 4,iv 3]:=by rw[hn];rfl
   apply yf;refine ya (hs:=by exact zI ArK.h TyK.h rfl rfl (by omega) (by omega) J) ?_;refine gc (ziZ s) ?_;refine gd ?_ ?_<;>intro V
   ·have k8:¬s.Count.N=2:=by first|exact V|(rw[V];decide)|(simp at V;simp[V];done)|omega
    refine gq ?_
    refine yu (n+1) (hJ:=by
     refine⟨by omega,?_,?_,?_,?_,?_⟩<;>intro h6<;>first|assumption|(exact absurd h6 (by omega))|(exact T (by omega))|(exact x4 (by omega))|(exact x3 (by omega))|(exact x1 (by omega))|(exact x2 (by omega)))
   have hy:s.Count.N=2:=by first|exact V|(simp at V;exact V)|omega
   have hW:(wnL s).find? (λc=>decide (c∈A))=[(4:Int),3].find? (λc=>decide (c∈A)):=by
    have h0:=T;rw[show wnL s=[4,3]by unfold wnL;simp_all]
   refine gq ?_;refine yD intE [_,_] ?_;refine yQ ?_;apply kP;refine zW (λj=>[(1,yc A),(2,.ptr 2 0 0 0),(4,iv 0),(5,.bool false),(10,.agg [.fn 292 [],iv 1,iv 0,.fn 291 [.ept (λ_:Unit=>[iv 0]) () 0],iv 0,iv 0,.fn 291 [.ept (λ_:Unit=>[iv 1]) () 0],iv 1,iv 2,.fn 293 [],iv 4,iv 3,.fn 291 [.ept (λ_:Unit=>[iv 2]) () 0],iv 3,iv 4]),(11,iv (n:Int)),(23,.own 23),(24,iv 2),(25,iv (j:Int))]) (λj=>[(2,.box (smE s) 260),(23,.row intE [4,3] 3 1)]) (λj=>j<=2/\∀i:Nat,i<j->∀d,([4,3]:List Int)[i]? =some d->d∉A) 2 (λj hk=>?_) (hJ:=by exact⟨by omega,λi hi=>absurd hi (by omega)⟩) (h0:=yd);obtain⟨w9,Z⟩:=hk;refine gd ?_ ?_<;>intro v3
   ·obtain⟨x,hx⟩:∃x,([4,3]:List Int)[j]? =some x:=⟨_,lgg (by simp;omega)⟩;have x0:([4,3]:List Int)[(j:Int).toNat]? =some x:=by simpa using hx
    refine gc (yV A x (by omega)) ?_;refine gd ?_ ?_<;>intro v9
    ·have hE:chF s A=some x:=by unfold chF;rw[hW];exact ziX hx (by simpa using v9) Z
     refine gq ?_;refine yl ?_ ?_;all_goals exact zE hE
    refine gq ?_;refine yu (j+1) (hJ:=by exact⟨by omega,zgM hx (by simpa using v9) Z⟩)
   ·have H:j=2:=by omega
    subst H;have hE:chF s A=none:=by unfold chF;rw[hW];exact zgL Z
    refine gq ?_;refine yl ?_ ?_;all_goals exact zE hE
  ·have J:(([.fn 292 [],iv 1,iv 0,.fn 291 [.ept (λ_:Unit=>[iv 0]) () 0],iv 0,iv 0,.fn 291 [.ept (λ_:Unit=>[iv 1]) () 0],iv 1,iv 2,.fn 293 [],iv 4,iv 3,.fn 291 [.ept (λ_:Unit=>[iv 2]) () 0],iv 3,iv 4]:List AV).drop (((n:Nat):Int).toNat*3)).take 3=[.fn 291 [.ept (λ_:Unit=>[iv 2]) () 0],iv 3,iv 4]:=by rw[hn];rfl
   apply yf;refine ya (hs:=by exact zI ArK.h TyK.h rfl rfl (by omega) (by omega) J) ?_;refine gc (zb1 s 2 hN) ?_;refine gd ?_ ?_<;>intro U
   ·have k7:¬s.Count.N%3=2:=by first|exact U|(rw[U];decide)|(simp at U;simp[U];done)|omega
    refine gq ?_
    refine yu (n+1) (hJ:=by
     refine⟨by omega,?_,?_,?_,?_,?_⟩<;>intro h6<;>first|assumption|(exact absurd h6 (by omega))|(exact T (by omega))|(exact x4 (by omega))|(exact x3 (by omega))|(exact x1 (by omega))|(exact x2 (by omega)))
   have hy:s.Count.N%3=2:=by first|exact U|(simp at U;exact U)|omega
   have hW:(wnL s).find? (λc=>decide (c∈A))=[(3:Int),4].find? (λc=>decide (c∈A)):=by
    have h0:=T;rw[show wnL s=[3,4]by unfold wnL;simp_all]
   refine gq ?_;refine yD intE [_,_] ?_;refine yQ ?_;apply kP;refine zW (λj=>[(1,yc A),(2,.ptr 2 0 0 0),(4,iv 0),(5,.bool false),(10,.agg [.fn 292 [],iv 1,iv 0,.fn 291 [.ept (λ_:Unit=>[iv 0]) () 0],iv 0,iv 0,.fn 291 [.ept (λ_:Unit=>[iv 1]) () 0],iv 1,iv 2,.fn 293 [],iv 4,iv 3,.fn 291 [.ept (λ_:Unit=>[iv 2]) () 0],iv 3,iv 4]),(11,iv (n:Int)),(23,.own 23),(24,iv 2),(25,iv (j:Int))]) (λj=>[(2,.box (smE s) 260),(23,.row intE [3,4] 3 1)]) (λj=>j<=2/\∀i:Nat,i<j->∀d,([3,4]:List Int)[i]? =some d->d∉A) 2 (λj hk=>?_) (hJ:=by exact⟨by omega,λi hi=>absurd hi (by omega)⟩) (h0:=yd);obtain⟨w9,Z⟩:=hk;refine gd ?_ ?_<;>intro v2
   ·obtain⟨x,hx⟩:∃x,([3,4]:List Int)[j]? =some x:=⟨_,lgg (by simp;omega)⟩;have x0:([3,4]:List Int)[(j:Int).toNat]? =some x:=by simpa using hx
    refine gc (yV A x (by omega)) ?_;refine gd ?_ ?_<;>intro v8
    ·have hE:chF s A=some x:=by unfold chF;rw[hW];exact ziX hx (by simpa using v8) Z
     refine gq ?_;refine yl ?_ ?_;all_goals exact zE hE
    refine gq ?_;refine yu (j+1) (hJ:=by exact⟨by omega,zgM hx (by simpa using v8) Z⟩)
   ·have H:j=2:=by omega
    subst H;have hE:chF s A=none:=by unfold chF;rw[hW];exact zgL Z
    refine gq ?_;refine yl ?_ ?_;all_goals exact zE hE
 ·exfalso;have a:=x4 (by omega);have b:=x3 (by omega);have c:=x2 (by omega);omega
end
section
attribute [local irreducible] stK okJ alK alQ chN chL segV segE unT rfA
def zgN(m:Mn)(k:Int)(l:List Ite)(M:List Int)(h0:-9223372036854775808<=k)(h1:k<=9223372036854775807)(hl:l.length<=1000000)(hM:M.length<=4000000)(hE:segE m k l=0)(hX:(decide (((segV m k l).length:Int)<=(M.length:Int)))=false)(hok:okJ (unT m k) k (segV m k l) l M M.length=true)(hN:∀s∈segV m k l,0<=s.Count.N)(hMS:M.length<=(segV m k l).length):FnO prog 224 [mnA m,iv k,itsA l,yc M] [] [] (.tup [.own 42,iv 0]) [(42,.row intE (alK (unT m k) k (segV m k l) l M M.length) 3 1)]:=by
 have E:=zaP m k l;have hu:=zhE (zdA hE).1;have V:=zdQ hE;obtain⟨s,hs⟩:∃s,(segV m k l)[M.length]? =some s:=⟨_,lgg (by simp at hX;omega)⟩;have xT:(segV m k l)[(M.length:Int).toNat]? =some s:=by simpa using hs
 have U:=V.all s (j8 hs);have T:=zlp U.b (zb7 (unT m k) (segV m k l) l M M.length);have J:=hN s (j8 hs);have x4:=zb7 (unT m k) (segV m k l) l M M.length;have x3:alQ (unT m k) k (stK (unT m k) (segV m k l) l M M.length).1 (stK (unT m k) (segV m k l) l M M.length).2 s=alK (unT m k) k (segV m k l) l M M.length:=by unfold alK;rw[show(segV m k l).getD M.length default=s by rw[jD,hs];rfl]
 refine bH (ts:=[(0,mnA m),(1,iv k),(2,itsA l),(3,yc M)]) (rv:=[.tmp 8,.tmp 9]) (n:=43) (cs:=[]) (by kernel_rfl) func224 rfl ntmps224 rfl rfl (by simp) rfl rfl rfl rfl (λg w d vs=>?_);refine gq ?_;refine zZ [(36,2000000),(30,2000001),(34,2000002)] (za0 m k l h0 h1 hl hE) ?_;refine gd ?_ ?_<;>intro H
 ·exact absurd rfl H
 apply yk;iterate 2 apply yh
 have G:((decide (((segV m k l).length:Int)<=(M.length:Int)))==false)=true:=by rw[hX];rfl
 ·apply yf;iterate 6 refine ya ?_
  iterate 3 refine z8 ?_
  refine yU rfl rfl G ?_;refine zZ [(2000000,2000000),(2000001,2000001),(2000002,2000002)] (zbD (unT m k) k (segV m k l) l M V hN hMS hl (by omega) (by omega) (by omega) hok) ?_;refine z8 ?_;refine gd ?_ ?_<;>intro Z
  ·first|(exact absurd Z.2 (by decide))|(cases Z;done)|(exact absurd Z (by simp[hX]))|(simp[hX]at Z;done)|(rcases Z with h|h<;>first|(cases h;done)|(exact absurd h (by simpa using hX))|(simp[hX]at h;done)|(exact absurd h (by decide)))
  refine gq ?_;refine bE (A_lendO (ι:=Nat) (stF:=λb=>⟨[(36,.ept (λ_:Unit=>[.sl itE (stK (unT m k) (segV m k l) l M M.length).1,iv k,iv (unT m k).N,iv (unT m k).D,.val (.map (some b))]) () 0),(41,smA s)],[]⟩) 42 (λg a w hr=>zsP (k:=2000002) rfl (λb=>(kL (k:=2000001) rfl).trans ((yY (k:=2000000) rfl rfl).trans yd)) (λ_=>rfl) (λ_=>rfl) hr) (λb=>za6 (stK (unT m k) (segV m k l) l M M.length).1 k (unT m k) b (stK (unT m k) (segV m k l) l M M.length).2 s T (by omega) (by omega) (by omega) J)) rfl rfl ?_;refine yQ ?_;refine kQ ?_;refine zc9 (st':=⟨[(8,.own 42),(9,iv 0)],[(1000001,.hold vs []),(42,.row intE (alK (unT m k) k (segV m k l) l M M.length) 3 1)]⟩) (by first|exact yd|exact yg) ?_;refine zkW.mk [(8,.own 42),(9,iv 0)] [] (.inr rfl) (.many (by decide) (.cons (.tmp rfl (kO ?_)) (.cons (.tmp rfl (kO ?_)) .nil)));all_goals rfl
def zdF(m:Mn)(k:Int)(l:List Ite)(M:List Int)(h0:-9223372036854775808<=k)(h1:k<=9223372036854775807)(hl:l.length<=1000000)(hM:M.length<=1000000)(hE:segE m k l=0)(hX:(decide (((segV m k l).length:Int)<=(M.length:Int)))=false)(hN:∀s∈segV m k l,0<=s.Count.N)(hMS:M.length<=(segV m k l).length)(hok:okJ (unT m k) k (segV m k l) l M M.length=true):FnO prog 207 [mnA m,iv k,itsA l,yc M] [] [] (.tup [.own 45,iv 0]) [(45,.row intE (alK (unT m k) k (segV m k l) l M M.length) 3 1)]:=by
 have v8:=zaP m k l;have hu:=zhE (zdA hE).1;have Z:=zdQ hE;have hF:=zgD hE;have hP:=zcI (zdA hE).2.1;have U:∀x∈l,0<=x.Cut:=λx hx=>(zhj (hP x hx)).1.2.2.1
 have v5:l=(stK (unT m k) (segV m k l) l M 0).1:=by unfold stK;rfl
 have v4:[]=M.take 0:=by simp
 refine bH (ts:=[(0,mnA m),(1,iv k),(2,itsA l),(3,yc M)]) (rv:=[.tmp 8,.tmp 9]) (n:=46) (cs:=[]) (by kernel_rfl) func207 rfl ntmps207 rfl rfl (by simp) rfl rfl rfl rfl (λg w d vs=>?_);refine gq ?_;refine zZ [(36,2000000),(31,2000001),(40,2000002)] (zT m k l h0 h1 hl hE) ?_;refine gd ?_ ?_<;>intro x4
 ·exact absurd rfl x4
 apply yk;apply yh;apply ye;iterate 3 refine ya ?_
 refine ya ?_ (hs:=by exact yi rfl);refine gd ?_ ?_<;>intro G
 ·first|(exact absurd hX (by simp;omega))|(exact absurd hX (by simp[G]))|(simp at hX;omega)
 apply yk;apply yh;apply ye;refine yj ?_;apply kP;refine zm (λn=>[(3,yc M),(10,.ptr 2000000 0 0 0),(12,iv (n:Int))]) (λn=>[(1000001,.hold vs []),(2000000,.box [iv (unT m k).N,iv (unT m k).D,iv k,itsA l,.own 2000001,smsA (segV m k l),.own 2000002] 265),(2000001,.row itE ((stK (unT m k) (segV m k l) l M n).1) 129 12),(2000002,.row intE (M.take n) 3 1)]) M.length (λn hk=>?_);refine gd ?_ ?_<;>intro v3
 ·obtain⟨s,hs⟩:∃s,(segV m k l)[n]? =some s:=⟨_,lgg (by omega)⟩;have x3:=@getX _ M n (by omega);obtain⟨c,hc,G⟩:=x3;have J:=zb7 (unT m k) (segV m k l) l M n;have V:=Z.all s (j8 hs);have w2:=(zmI (u:=unT m k) (l:=l) hs hc).1;have v9:=zf0 hc;have H:=hN s (j8 hs);have x2:=zmH (u:=unT m k) (k:=k) (l:=l) hs hc;have E:(M.take n).length=n:=by rw[jO];omega
  have x1:(segV m k l)[(M.take n).length]? =some s:=by rw[E];exact hs
  have x0:∀(hk:okJ (unT m k) k (segV m k l) l M n=true),rfA (unT m k) k (segV m k l) l (stK (unT m k) (segV m k l) l M n).1 (M.take n) (M.take n).length=alQ (unT m k) k (stK (unT m k) (segV m k l) l M n).1 (stK (unT m k) (segV m k l) l M n).2 s:=λhk=>by
   rw[E,ziR,zlq U Z hF (by omega) hk];unfold alK;rw[show(segV m k l).getD n default=s by rw[jD,hs];rfl]
  have w9:=zhl hok (show n<=M.length by omega)
  have T:c∈alQ (unT m k) k (stK (unT m k) (segV m k l) l M n).1 (stK (unT m k) (segV m k l) l M n).2 s:=by
   have h:=zhl hok (show n+1<=M.length by omega);rw[x2]at h;simpa using(xV.1 h).2
  refine gq ?_;refine zZ [(2000000,2000000),(2000001,2000001),(2000002,2000002),(2000012,2000012)] (zG (unT m k) k l (stK (unT m k) (segV m k l) l M n).1 (segV m k l) (M.take n) s x1 V.b hl J (by omega) (by omega) (by omega) H c (by rw[x0 w9];exact T) (zfY V.ft T)) ?_;refine bF (st':=⟨[(3,yc M),(10,.ptr 2000000 0 0 0),(12,iv (n:Int)),(42,.bool true)],[(1000001,.hold vs []),(2000000,.box [iv (unT m k).N,iv (unT m k).D,iv k,itsA l,.own 2000001,smsA (segV m k l),.own 2000012] 265),(2000001,.row itE ((stK (unT m k) (segV m k l) l M (n+1)).1) 129 12),(2000012,.row intE (M.take (n+1)) 3 1)]⟩) yg ?_;refine bF (st':=⟨[(3,yc M),(10,.ptr 2000000 0 0 0),(12,iv (n:Int)),(42,.bool true)],[(1000001,.hold vs []),(2000000,.box [iv (unT m k).N,iv (unT m k).D,iv k,itsA l,.own 2000001,smsA (segV m k l),.own 2000002] 265),(2000001,.row itE ((stK (unT m k) (segV m k l) l M (n+1)).1) 129 12),(2000002,.row intE (M.take (n+1)) 3 1)]⟩) ((bN 2000012 2000002 rfl rfl).trans yd) ?_;refine gd ?_ ?_<;>intro xT
  ·first|(cases xT;done)|(exact absurd xT (by decide))
  refine gq ?_;refine yu (n+1) (hI:=yg)
 ·have hn:n=M.length:=by omega
  subst hn;obtain⟨s,hs⟩:∃s,(segV m k l)[M.length]? =some s:=⟨_,lgg (by simp at hX;omega)⟩;have V:=Z.all s (j8 hs);have H:=hN s (j8 hs);have J:=zb7 (unT m k) (segV m k l) l M M.length;have v2:M.take M.length=M:=jK;have v1:rfA (unT m k) k (segV m k l) l (stK (unT m k) (segV m k l) l M M.length).1 M M.length=alK (unT m k) k (segV m k l) l M M.length:=zlq U Z hF (by simp at hX;omega) hok;apply bA;apply ye;refine ya ?_;refine bF (st':=⟨[(44,.ptr 2000000 0 0 0)],[(1000001,.hold vs []),(2000000,.box [iv (unT m k).N,iv (unT m k).D,iv k,itsA l,.own 2000001,smsA (segV m k l),.own 2000002] 265),(2000001,.row itE ((stK (unT m k) (segV m k l) l M M.length).1) 129 12),(2000002,.row intE (M) 3 1)]⟩) yg ?_;refine bE (A_lendO (ι:=Unit) (stF:=λ_=>⟨[(44,.ept (λ_:Unit=>[iv (unT m k).N,iv (unT m k).D,iv k,itsA l,itsA (stK (unT m k) (segV m k l) l M M.length).1,smsA (segV m k l),yc M]) () 0)],[]⟩) 45 (λg a w hr=>znj ((kL (k:=2000001) rfl).trans ((kL (k:=2000002) rfl).trans ((yY (k:=2000000) rfl rfl).trans yd))) hr) (λ_=>zX (unT m k) k l (stK (unT m k) (segV m k l) l M M.length).1 (segV m k l) M s hs V.b hl J (by omega) (by omega) (by omega) H)) rfl rfl ?_;refine yQ ?_;refine kQ ?_;refine zc9 (st':=⟨[(8,.own 45),(9,iv 0)],[(1000001,.hold vs []),(45,.row intE (alK (unT m k) k (segV m k l) l M M.length) 3 1)]⟩) (by first|exact yd|exact yg) ?_;refine zkW.mk [(8,.own 45),(9,iv 0)] [] (.inr rfl) (.many (by decide) (.cons (.tmp rfl (kO ?_)) (.cons (.tmp rfl (kO ?_)) .nil)));all_goals rfl
end
end Go.Rse
namespace Go.Rse
open Go Go.RowKit Go.Proofs.Tryz
section
variable{P:Program}{C:Ctx}{st:St}{ty:TypeId}
def zoX{fop:Operand}{args:Array Operand}{ts:Array TypeId}{f:FuncId}{caps xs az fl:List AV}{α:Type}{enc:α->List AV}{l:List α}{E s q:Nat}{stF:St}(k:Nat)(hi:Imp C st stF)(h:FnO P f az [] [] (.tup (.own q::fl)) [(q,.row enc l E s)])
 (v9:∀x,AV.flat.flatL (enc x)=true:=by intro x;rfl)(v8:AV.flat.flatL fl=true:=by rfl)(hf:ev stF fop=some (.fn f caps):=by rfl)(hx:evs stF args.toList=some xs:=by rfl)(v5:LeL (xs++caps) az:=by exact bC _):
 yy P C (.call {callee:=.value fop,args:=args,argTypes:=ts}) ty st (.tup (.own k::fl)) (some (k,.row enc l E s)):=λg a w dst pos af gd T K hK=>by
 obtain⟨gF,U⟩:=hi g a w T;obtain⟨us,e,v4,hu⟩:=zcY (yA U hf);have N:=zeQ U hx;have xT:RVL gF.I gF.ρ az (args.toList.map a.eval++us):=v5.rvl (N.append ⟨v4,hu⟩);obtain⟨dc,x4,_⟩:=zc5 gF.O w.heap.size [] U.sat.ob.1;have h0:=h.2 dc gF.ρ gF.I gF.O w _ ⟨U.sat.im,U.sat.ob,λk B hB=>by simp[lk]at hB⟩ xT;have e1:(args.toList.map a.eval++us).toArray=args.map a.eval++us.toArray:=by simp[←Array.toList_map]
 rw[e1]at h0
 have e2:(execOp a.eval {dst:=dst,op:=.call {callee:=.value fop,args:=args,argTypes:=ts},type:=ty,pos:=pos,after:=af,guard:=gd}).run P w=.ok (.enter f (args.map a.eval++us.toArray)) w:=by
  simp only[execOp,resolve,e,Deferred.ofValue,jP,jU,jI,invoke,zV h.1];simp
 unfold wp1;rw[e2];refine Calls.mono h0 ?_
 rintro e w'⟨v,ρ',I',O',rfl,hs,hv,Z,_⟩
 refine⟨v,rfl,?_⟩
 have J:Grow w w':=⟨Z.os,Z.tape,Z.output,Z.drawn,Z.size,λb V=>(Z.keep b V (λhk=>by
  rcases hk with hk|⟨n,hk⟩
  ·exact absurd hk (kJ.2 V)
  ·exact x4 b n hk) (λ⟨y,n,hy,_⟩=>by simp at hy)).1⟩
 cases hv with
 |tup _ vs hl x3=>
 cases vs with
 |nil=>simp at hl
 |cons v0 vr=>
 have v3:RV I' ρ' (.own q) v0:=x3 0 _ _ (by rfl) (by rfl);let g3:Gh:={ρ:=λn=>if n=k then v0 else g.ρ n,I:=g.I,O:=λb=>if b<w.heap.size then g.O b else(match O' b with|some (y,n)=>if y=dc/\n=q then some (C.d,k)else none|none=>none)};have x2:∀b,b<w.heap.size->g3.O b=g.O b:=λb V=>by simp[g3,V]
 have H:ρ' q=v0:=zaa v3;obtain⟨xs',p1,p2,p3,p4⟩:=hs.blk q (.row enc l E s) (by simp[yq])
 have x1:∀b,y9 (ρ' q)=some b->O' b=some (dc,q)/\w.heap.size<=b:=λb V=>by
  obtain⟨q1,q2⟩:=p4 b V;refine⟨q1,?_⟩;rcases q2 with q2|⟨n,q2⟩
  ·exact q2
  ·exact absurd q2 (x4 b n)
 have v2:ImOB g3 w':=by
  refine⟨λb o u hI=>?_,λb p hO=>?_,T.sat.ob.2⟩
  ·obtain⟨q1,q2⟩:=T.sat.im b o u hI;exact⟨J.cell q1,by rw[x2 b (zcy q1)];exact q2⟩
  ·rcases wD b w.heap.size with V|V
   ·exact w6 V J.size
   ·simp only[g3,Nat.not_lt.2 V,if_false]at hO;cases x0:O' b with
    |none=>simp[x0]at hO
    |some q=>exact hs.ob.1 b q x0
 refine hK _ w' g3 ⟨bO _,λn hn=>?_,x2,J⟩ ?_ v2 (λk' B hB=>?_)
 ·have:n≠k:=λe=>hn (by simp[e])
  simp[g3,this]
 ·refine .tup _ _ (by simpa using hl) (λj c u hc G=>?_)
  match j with
  |0=>
   simp at hc G;subst hc;subst G;rcases p1.2 with⟨e,_⟩|⟨b,cap,cur,e,_⟩<;>
   ·have e:ρ' q=_:=e;rw[H]at e;rw[e];exact .own k _ _ _ (by simp[g3,e])
  |j+1=>
   have w9:fl[j]? =some c:=by simpa using hc
   exact(x3 (j+1) c u (by simpa using w9) G).flat (za3 v8 w9)
 ·injection hB with hB;injection hB with e3 e4;subst e3;subst e4;have w2:g3.ρ k=v0:=by simp[g3]
  refine⟨xs',by rw[w2,←H];exact p1,p2,λj x q c u hx hc hu=>(p3 j x q c u hx hc hu).flat (za3 (v9 x) hc),λb V=>?_⟩;rw[w2,←H]at V;obtain⟨q1,q2⟩:=x1 b V;refine⟨by simp[g3,Nat.not_lt.2 q2,q1],.inl (jT T.ext.size q2)⟩
end
end Go.Rse
namespace Go.Rse
open Go Go.Proofs Go.Proofs.Tryz
def muF(m:Mn)(k:Int)(l:List Ite)(n:Nat):List Int:=(mdJ (unT m k) k (segV m k l) l n).getD []
def muI(m:Mn)(k:Int)(l:List Ite)(n:Nat):Bool:=(mdJ (unT m k) k (segV m k l) l n).isSome
section
variable{m:Mn}{k:Int}{l:List Ite}{n:Nat}
def zFe:muF m k l 0=[]:=rfl
def zwu:muI m k l 0=true:=rfl
def zgO(h:muI m k l n=true):mdJ (unT m k) k (segV m k l) l n=some (muF m k l n):=by
 unfold muI at h;obtain⟨M,e⟩:=wY.1 h;unfold muF;rw[e];rfl
def zi0(h:muI m k l n=true):(muF m k l n).length=n:=(ziS (zgO h)).1
def zwv(h:muI m k l n=true):okJ (unT m k) k (segV m k l) l (muF m k l n) (muF m k l n).length=true:=by
 rw[zi0 h];exact(ziS (zgO h)).2.1
abbrev akF(m:Mn)(k:Int)(l:List Ite)(n:Nat):List Int:=alK (unT m k) k (segV m k l) l (muF m k l n) (muF m k l n).length
def zAU{s:Sgm}{c:Int}(h:muI m k l n=true)(hs:(segV m k l)[n]? =some s)(Z:chF s (akF m k l n)=some c):muI m k l (n+1)=true/\muF m k l n++[c]=muF m k l (n+1):=by
 have h1:=zq5 (zgO h);unfold akF at Z;rw[zi0 h]at Z;rw[show(segV m k l).getD n default=s by rw[jD,hs];rfl,Z]at h1;unfold muI;rw[h1];refine⟨rfl,?_⟩;conv=>rhs;unfold muF
 rw[h1];rfl
def zAV(h:¬segE m k l=0):cuE m k l=segE m k l/\cuV m k l=[]:=by
 have:cuE m k l=segE m k l:=by unfold cuE;rw[j7 h]
 refine⟨this,?_⟩;unfold cuV;rw[this,j7 h]
def zAW{s:Sgm}(h0:segE m k l=0)(h:muI m k l n=true)(hs:(segV m k l)[n]? =some s)(Z:chF s (akF m k l n)=none):cuE m k l=14/\cuV m k l=[]:=by
 have h1:=zq5 (zgO h);unfold akF at Z;rw[zi0 h]at Z;rw[show(segV m k l).getD n default=s by rw[jD,hs];rfl,Z]at h1;have hl:=(j5.1 hs).1
 have V:cuO m k l=none:=by
  unfold cuO;have:=zmJ h1 ((segV m k l).length-(n+1))
  rwa[show n+1+((segV m k l).length-(n+1))=(segV m k l).length by omega]at this
 have:cuE m k l=14:=by unfold cuE;rw[j6 h0,V];rfl
 refine⟨this,?_⟩;unfold cuV;rw[this];rfl
def zrF(h0:segE m k l=0)(h:muI m k l n=true)(hn:n=(segV m k l).length):cuE m k l=0/\muF m k l n=cuV m k l:=by
 have Z:cuO m k l=some (muF m k l n):=by unfold cuO;rw[←hn];exact zgO h
 have:cuE m k l=0:=by unfold cuE;rw[j6 h0,Z];rfl
 refine⟨this,?_⟩;unfold cuV;rw[this,Z];rfl
end
def zoY(u:Tm)(k:Int)(S:List Sgm)(l:List Ite)(M:List Int)(n:Nat):(alK u k S l M n).length<=5:=by
 unfold alK alQ alR;simp only[jC];have h:∀(p:Prop)[Decidable p](x:Int),(if p then[x]else[]).length<=1:=λp _ x=>by split<;>simp
 have a1:=h;refine jT (kC (kC (kC (kC (h _ _) (h _ _)) (h _ _)) (h _ _)) (h _ _)) (by omega)
def wdF(L A:List Int)(i:Nat):Int:=((L.drop (L.length-i)).find? λc=>decide (c∈A)).getD (-1)
def zEw(L A:List Int):wdF L A 0=-1:=by unfold wdF;rw[x6,wT];rfl
def zEx{L A:List Int}{i:Nat}{x:Int}(hi:i<L.length)(h:L[L.length-1-i]? =some x):wdF L A (i+1)=if x∈A then x else wdF L A i:=by
 have h1:=j5.1 h
 have e:L.drop (L.length-(i+1))=x::L.drop (L.length-i):=by
  rw[show L.length-(i+1)=L.length-1-i by omega,jL h1.1,h1.2,show L.length-1-i+1=L.length-i by omega]
 unfold wdF;rw[e];by_cases hx:x∈A
 ·rw[j6 hx,List.find?_cons_of_pos (by simpa using hx)];rfl
 ·rw[j7 hx,List.find?_cons_of_neg (by simpa using hx)]
def zyg{s:Sgm}{A:List Int}{i:Nat}(hi:i=(wnL s).length):wdF (wnL s) A i=(chF s A).getD (-1):=by
 unfold wdF chF;rw[hi,Nat.sub_self];rfl
def zyh(s:Sgm):(wnL s).length<=2:=by
 unfold wnL;split<;>try split
 all_goals(try split)
 all_goals(try split)
 all_goals simp
end Go.Rse
