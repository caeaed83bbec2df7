/-
  Walks.
-/
import Derived.Test.YtbopkhoalndflaaGreatDoorYJLvl15
set_option linter.all false
namespace Go.Rse
open Go Go.Proofs Go.Proofs.Tryz
section
instance:ZcK prog 367 [.nilf,.int .i64 0,.int .i64 0]:=⟨⟨_,zAr,rfl⟩⟩
attribute [local irreducible] Pur yA yC Ex X Fn Imp LeV LeB FnO It yH FnW FnOW
def zix{L A:List Int}{j:Nat}{c:Int}(Z:L[j]? =some c)(V:c∈A)(h:∀i:Nat,i<j->∀d,L[i]? =some d->d∉A):L.find? (λc=>decide (c∈A))=some c:=by
 rw[List.find?_eq_some_iff_append];refine⟨by simpa using V,L.take j,L.drop (j+1),?_,λa U=>?_⟩
 ·have hl:=(j1.1 Z);rw[←hl.2,List.getElem_cons_drop,wD]
 ·obtain⟨i,hi,e⟩:=List.getElem_of_mem U;rw[jM]at hi;have:=h i (by omega) a (by rw[←e,List.getElem_take,lgg]);simpa using this
def zgy{L A:List Int}(h:∀i:Nat,i<L.length->∀d,L[i]? =some d->d∉A):L.find? (λc=>decide (c∈A))=none:=by
 rw[List.find?_eq_none];intro c Z;obtain⟨i,hi,e⟩:=List.getElem_of_mem Z;have:=h i hi c (by rw[←e,lgg]);simpa using this
def zgz{L A:List Int}{j:Nat}{c:Int}(V:L[j]? =some c)(U:c∉A)(h:∀i:Nat,i<j->∀d,L[i]? =some d->d∉A):∀i:Nat,i<j+1->∀d,L[i]? =some d->d∉A:=by
 intro i hi d Z;by_cases e:i=j
 ·subst e;rw[V]at Z;injection Z with Z;subst Z;exact U
 ·exact h i (by omega) d Z
def zqw(p:Int->Bool)(a:Int):[a,a].find? p=[a].find? p:=by
 simp only[List.find?];cases p a<;>rfl
def zbU(s:Sgm)(n:Int)(hN:0<=s.Count.N):Fn prog 357 [smA s,.ept (λ_:Unit=>[iv n]) () 0] (.bool (decide (s.Count.N%3=n))):=by
 refine kF func357 ntmps357 (λg w d=>?_);refine gq ?_;all_goals exact zR
def zcL(n:Int):Fn prog 356 [iv n] (.fn 357 [.ept (λ_:Unit=>[iv n]) () 0]):=by
 refine kF func356 ntmps356 (λg w d=>?_);apply ye;refine zeW ?_;refine ya ?_;apply yG;refine yO ?_;refine kE ?_;refine kA (y5 (k:=1) rfl rfl) ?_;refine gq ?_;all_goals exact zR
def ziy(s:Sgm):Fn prog 358 [smA s] (.bool s.Free):=by
 refine kF func358 ntmps358 (λg w d=>?_);refine gq ?_;all_goals exact zR
def ziz(s:Sgm):Fn prog 359 [smA s] (.bool (decide (s.Count.N=2))):=by
 refine kF func359 ntmps359 (λg w d=>?_);refine gq ?_;all_goals exact zR
def zkP:Fn prog 331 [] (.agg [.fn 358 [],iv 1,iv 0,.fn 357 [.ept (λ_:Unit=>[iv 0]) () 0],iv 0,iv 0,.fn 357 [.ept (λ_:Unit=>[iv 1]) () 0],iv 1,iv 2,.fn 359 [],iv 4,iv 3,.fn 357 [.ept (λ_:Unit=>[iv 2]) () 0],iv 3,iv 4]):=by
 refine kF func331 ntmps331 (λg w d=>?_);refine gc (zcL 0) ?_;refine gc (zcL 1) ?_;refine gc (zcL 2) ?_;refine kL (.one (.cellA rfl rfl rfl rfl zvj (kC ?_)));all_goals exact zR
attribute [local irreducible] chF wnL
set_option maxHeartbeats 2000000 in
def zjt(s:Sgm)(A:List Int)(hN:0<=s.Count.N)(hA:A.length<=1000000):Fn prog 299 [smA s,yc A] (.tup [iv ((chF s A).getD 0),.bool (chF s A).isSome]):=by
 refine kF func299 ntmps299 (λg w d=>?_);refine gq ?_;refine yP zkP ?_;refine yh ?_;apply kB;refine zM (λn=>[(1,yc A),(2,.ptr 2 0 0 0),(4,iv 0),(5,.bool false),(10,.agg [.fn 358 [],iv 1,iv 0,.fn 357 [.ept (λ_:Unit=>[iv 0]) () 0],iv 0,iv 0,.fn 357 [.ept (λ_:Unit=>[iv 1]) () 0],iv 1,iv 2,.fn 359 [],iv 4,iv 3,.fn 357 [.ept (λ_:Unit=>[iv 2]) () 0],iv 3,iv 4]),(11,iv (n:Int))]) (λn=>[(2,.box (smE s) 317)]) (λn=>n<=5/\(1<=n->¬s.Free=true)/\(2<=n->¬s.Count.N%3=0)/\(3<=n->¬s.Count.N%3=1)/\(4<=n->¬s.Count.N=2)/\(5<=n->¬s.Count.N%3=2)) 5 (λn hk=>?_) (hJ:=by exact⟨by omega,by omega,by omega,by omega,by omega,by omega⟩) (h0:=yd);obtain⟨v0,T,xT,x4,x2,x3⟩:=hk;refine gd ?_ ?_<;>intro u4
 ·apply yk;apply yf;apply kB;apply yf;obtain hn|hn|hn|hn|hn:n=0\/n=1\/n=2\/n=3\/n=4:=by omega
  ·have Q:(([.fn 358 [],iv 1,iv 0,.fn 357 [.ept (λ_:Unit=>[iv 0]) () 0],iv 0,iv 0,.fn 357 [.ept (λ_:Unit=>[iv 1]) () 0],iv 1,iv 2,.fn 359 [],iv 4,iv 3,.fn 357 [.ept (λ_:Unit=>[iv 2]) () 0],iv 3,iv 4]:List AV).drop (((n:Nat):Int).toNat*3)).take 3=[.fn 358 [],iv 1,iv 0]:=by rw[hn];rfl
   apply yj;refine ya (hs:=by exact zF ArK.h TyK.h rfl rfl (by omega) (by omega) Q) ?_;refine gc (ziy s) ?_;refine gd ?_ ?_<;>intro I
   ·have u3:¬s.Free=true:=by first|exact I|(rw[I];decide)|(simp at I;simp[I];done)|omega
    refine gq ?_
    refine yz (n+1) (hJ:=by
     refine⟨by omega,?_,?_,?_,?_,?_⟩<;>intro h6<;>first|assumption|(exact absurd h6 (by omega))|(exact T (by omega))|(exact xT (by omega))|(exact x4 (by omega))|(exact x2 (by omega))|(exact x3 (by omega)))
   have hy:s.Free=true:=by first|exact I|(simp at I;exact I)|omega
   have E:(wnL s).find? (λc=>decide (c∈A))=[(1:Int),0].find? (λc=>decide (c∈A)):=by
    have h0:=T;rw[show wnL s=[1,0]by unfold wnL;simp_all]
   refine gq ?_;refine yD intE [_,_] ?_;refine yO ?_;apply kB;refine zM (λj=>[(1,yc A),(2,.ptr 2 0 0 0),(4,iv 0),(5,.bool false),(10,.agg [.fn 358 [],iv 1,iv 0,.fn 357 [.ept (λ_:Unit=>[iv 0]) () 0],iv 0,iv 0,.fn 357 [.ept (λ_:Unit=>[iv 1]) () 0],iv 1,iv 2,.fn 359 [],iv 4,iv 3,.fn 357 [.ept (λ_:Unit=>[iv 2]) () 0],iv 3,iv 4]),(11,iv (n:Int)),(23,.own 23),(24,iv 2),(25,iv (j:Int))]) (λj=>[(2,.box (smE s) 317),(23,.row intE [1,0] 3 1)]) (λj=>j<=2/\∀i:Nat,i<j->∀d,([1,0]:List Int)[i]? =some d->d∉A) 2 (λj hk=>?_) (hJ:=by exact⟨by omega,λi hi=>absurd hi (by omega)⟩) (h0:=yd);obtain⟨x0,Z⟩:=hk;refine gd ?_ ?_<;>intro u2
   ·obtain⟨x,hx⟩:∃x,([1,0]:List Int)[j]? =some x:=⟨_,lgg (by simp;omega)⟩;have x1:([1,0]:List Int)[(j:Int).toNat]? =some x:=by simpa using hx
    refine gc (yU A x (by omega)) ?_;refine gd ?_ ?_<;>intro v5
    ·have hE:chF s A=some x:=by unfold chF;rw[E];exact zix hx (by simpa using v5) Z
     refine gq ?_;refine ym ?_ ?_;all_goals exact zE hE
    refine gq ?_;refine yz (j+1) (hJ:=by exact⟨by omega,zgz hx (by simpa using v5) Z⟩)
   ·have J:j=2:=by omega
    subst J;have hE:chF s A=none:=by unfold chF;rw[E];exact zgy Z
    refine gq ?_;refine ym ?_ ?_;all_goals exact zE hE
  ·have Q:(([.fn 358 [],iv 1,iv 0,.fn 357 [.ept (λ_:Unit=>[iv 0]) () 0],iv 0,iv 0,.fn 357 [.ept (λ_:Unit=>[iv 1]) () 0],iv 1,iv 2,.fn 359 [],iv 4,iv 3,.fn 357 [.ept (λ_:Unit=>[iv 2]) () 0],iv 3,iv 4]:List AV).drop (((n:Nat):Int).toNat*3)).take 3=[.fn 357 [.ept (λ_:Unit=>[iv 0]) () 0],iv 0,iv 0]:=by rw[hn];rfl
   apply yj;refine ya (hs:=by exact zF ArK.h TyK.h rfl rfl (by omega) (by omega) Q) ?_;refine gc (zbU s 0 hN) ?_;refine gd ?_ ?_<;>intro H
   ·have u1:¬s.Count.N%3=0:=by first|exact H|(rw[H];decide)|(simp at H;simp[H];done)|omega
    refine gq ?_
    refine yz (n+1) (hJ:=by
     refine⟨by omega,?_,?_,?_,?_,?_⟩<;>intro h6<;>first|assumption|(exact absurd h6 (by omega))|(exact T (by omega))|(exact xT (by omega))|(exact x4 (by omega))|(exact x2 (by omega))|(exact x3 (by omega)))
   have hy:s.Count.N%3=0:=by first|exact H|(simp at H;exact H)|omega
   have E:(wnL s).find? (λc=>decide (c∈A))=[(0:Int),0].find? (λc=>decide (c∈A)):=by
    have h0:=T;rw[zqw,show wnL s=[0]by unfold wnL;simp_all]
   refine gq ?_;refine yD intE [_,_] ?_;refine yO ?_;apply kB;refine zM (λj=>[(1,yc A),(2,.ptr 2 0 0 0),(4,iv 0),(5,.bool false),(10,.agg [.fn 358 [],iv 1,iv 0,.fn 357 [.ept (λ_:Unit=>[iv 0]) () 0],iv 0,iv 0,.fn 357 [.ept (λ_:Unit=>[iv 1]) () 0],iv 1,iv 2,.fn 359 [],iv 4,iv 3,.fn 357 [.ept (λ_:Unit=>[iv 2]) () 0],iv 3,iv 4]),(11,iv (n:Int)),(23,.own 23),(24,iv 2),(25,iv (j:Int))]) (λj=>[(2,.box (smE s) 317),(23,.row intE [0,0] 3 1)]) (λj=>j<=2/\∀i:Nat,i<j->∀d,([0,0]:List Int)[i]? =some d->d∉A) 2 (λj hk=>?_) (hJ:=by exact⟨by omega,λi hi=>absurd hi (by omega)⟩) (h0:=yd);obtain⟨x0,Z⟩:=hk;refine gd ?_ ?_<;>intro k5
   ·obtain⟨x,hx⟩:∃x,([0,0]:List Int)[j]? =some x:=⟨_,lgg (by simp;omega)⟩;have x1:([0,0]:List Int)[(j:Int).toNat]? =some x:=by simpa using hx
    refine gc (yU A x (by omega)) ?_;refine gd ?_ ?_<;>intro v4
    ·have hE:chF s A=some x:=by unfold chF;rw[E];exact zix hx (by simpa using v4) Z
     refine gq ?_;refine ym ?_ ?_;all_goals exact zE hE
    refine gq ?_;refine yz (j+1) (hJ:=by exact⟨by omega,zgz hx (by simpa using v4) Z⟩)
   ·have J:j=2:=by omega
    subst J;have hE:chF s A=none:=by unfold chF;rw[E];exact zgy Z
    refine gq ?_;refine ym ?_ ?_;all_goals exact zE hE
  ·have Q:(([.fn 358 [],iv 1,iv 0,.fn 357 [.ept (λ_:Unit=>[iv 0]) () 0],iv 0,iv 0,.fn 357 [.ept (λ_:Unit=>[iv 1]) () 0],iv 1,iv 2,.fn 359 [],iv 4,iv 3,.fn 357 [.ept (λ_:Unit=>[iv 2]) () 0],iv 3,iv 4]:List AV).drop (((n:Nat):Int).toNat*3)).take 3=[.fn 357 [.ept (λ_:Unit=>[iv 1]) () 0],iv 1,iv 2]:=by rw[hn];rfl
   apply yj;refine ya (hs:=by exact zF ArK.h TyK.h rfl rfl (by omega) (by omega) Q) ?_;refine gc (zbU s 1 hN) ?_;refine gd ?_ ?_<;>intro G
   ·have x1:¬s.Count.N%3=1:=by first|exact G|(rw[G];decide)|(simp at G;simp[G];done)|omega
    refine gq ?_
    refine yz (n+1) (hJ:=by
     refine⟨by omega,?_,?_,?_,?_,?_⟩<;>intro h6<;>first|assumption|(exact absurd h6 (by omega))|(exact T (by omega))|(exact xT (by omega))|(exact x4 (by omega))|(exact x2 (by omega))|(exact x3 (by omega)))
   have hy:s.Count.N%3=1:=by first|exact G|(simp at G;exact G)|omega
   have E:(wnL s).find? (λc=>decide (c∈A))=[(1:Int),2].find? (λc=>decide (c∈A)):=by
    have h0:=T;rw[show wnL s=[1,2]by unfold wnL;simp_all]
   refine gq ?_;refine yD intE [_,_] ?_;refine yO ?_;apply kB;refine zM (λj=>[(1,yc A),(2,.ptr 2 0 0 0),(4,iv 0),(5,.bool false),(10,.agg [.fn 358 [],iv 1,iv 0,.fn 357 [.ept (λ_:Unit=>[iv 0]) () 0],iv 0,iv 0,.fn 357 [.ept (λ_:Unit=>[iv 1]) () 0],iv 1,iv 2,.fn 359 [],iv 4,iv 3,.fn 357 [.ept (λ_:Unit=>[iv 2]) () 0],iv 3,iv 4]),(11,iv (n:Int)),(23,.own 23),(24,iv 2),(25,iv (j:Int))]) (λj=>[(2,.box (smE s) 317),(23,.row intE [1,2] 3 1)]) (λj=>j<=2/\∀i:Nat,i<j->∀d,([1,2]:List Int)[i]? =some d->d∉A) 2 (λj hk=>?_) (hJ:=by exact⟨by omega,λi hi=>absurd hi (by omega)⟩) (h0:=yd);obtain⟨x0,Z⟩:=hk;refine gd ?_ ?_<;>intro k4
   ·obtain⟨x,hx⟩:∃x,([1,2]:List Int)[j]? =some x:=⟨_,lgg (by simp;omega)⟩;have x1:([1,2]:List Int)[(j:Int).toNat]? =some x:=by simpa using hx
    refine gc (yU A x (by omega)) ?_;refine gd ?_ ?_<;>intro w2
    ·have hE:chF s A=some x:=by unfold chF;rw[E];exact zix hx (by simpa using w2) Z
     refine gq ?_;refine ym ?_ ?_;all_goals exact zE hE
    refine gq ?_;refine yz (j+1) (hJ:=by exact⟨by omega,zgz hx (by simpa using w2) Z⟩)
   ·have J:j=2:=by omega
    subst J;have hE:chF s A=none:=by unfold chF;rw[E];exact zgy Z
    refine gq ?_;refine ym ?_ ?_;all_goals exact zE hE
  ·have Q:(([.fn 358 [],iv 1,iv 0,.fn 357 [.ept (λ_:Unit=>[iv 0]) () 0],iv 0,iv 0,.fn 357 [.ept (λ_:Unit=>[iv 1]) () 0],iv 1,iv 2,.fn 359 [],iv 4,iv 3,.fn 357 [.ept (λ_:Unit=>[iv 2]) () 0],iv 3,iv 4]:List AV).drop (((n:Nat):Int).toNat*3)).take 3=[.fn 359 [],iv 4,iv 3]:=by rw[hn];rfl
   apply yj;refine ya (hs:=by exact zF ArK.h TyK.h rfl rfl (by omega) (by omega) Q) ?_;refine gc (ziz s) ?_;refine gd ?_ ?_<;>intro V
   ·have k3:¬s.Count.N=2:=by first|exact V|(rw[V];decide)|(simp at V;simp[V];done)|omega
    refine gq ?_
    refine yz (n+1) (hJ:=by
     refine⟨by omega,?_,?_,?_,?_,?_⟩<;>intro h6<;>first|assumption|(exact absurd h6 (by omega))|(exact T (by omega))|(exact xT (by omega))|(exact x4 (by omega))|(exact x2 (by omega))|(exact x3 (by omega)))
   have hy:s.Count.N=2:=by first|exact V|(simp at V;exact V)|omega
   have E:(wnL s).find? (λc=>decide (c∈A))=[(4:Int),3].find? (λc=>decide (c∈A)):=by
    have h0:=T;rw[show wnL s=[4,3]by unfold wnL;simp_all]
   refine gq ?_;refine yD intE [_,_] ?_;refine yO ?_;apply kB;refine zM (λj=>[(1,yc A),(2,.ptr 2 0 0 0),(4,iv 0),(5,.bool false),(10,.agg [.fn 358 [],iv 1,iv 0,.fn 357 [.ept (λ_:Unit=>[iv 0]) () 0],iv 0,iv 0,.fn 357 [.ept (λ_:Unit=>[iv 1]) () 0],iv 1,iv 2,.fn 359 [],iv 4,iv 3,.fn 357 [.ept (λ_:Unit=>[iv 2]) () 0],iv 3,iv 4]),(11,iv (n:Int)),(23,.own 23),(24,iv 2),(25,iv (j:Int))]) (λj=>[(2,.box (smE s) 317),(23,.row intE [4,3] 3 1)]) (λj=>j<=2/\∀i:Nat,i<j->∀d,([4,3]:List Int)[i]? =some d->d∉A) 2 (λj hk=>?_) (hJ:=by exact⟨by omega,λi hi=>absurd hi (by omega)⟩) (h0:=yd);obtain⟨x0,Z⟩:=hk;refine gd ?_ ?_<;>intro v3
   ·obtain⟨x,hx⟩:∃x,([4,3]:List Int)[j]? =some x:=⟨_,lgg (by simp;omega)⟩;have x1:([4,3]:List Int)[(j:Int).toNat]? =some x:=by simpa using hx
    refine gc (yU A x (by omega)) ?_;refine gd ?_ ?_<;>intro v9
    ·have hE:chF s A=some x:=by unfold chF;rw[E];exact zix hx (by simpa using v9) Z
     refine gq ?_;refine ym ?_ ?_;all_goals exact zE hE
    refine gq ?_;refine yz (j+1) (hJ:=by exact⟨by omega,zgz hx (by simpa using v9) Z⟩)
   ·have J:j=2:=by omega
    subst J;have hE:chF s A=none:=by unfold chF;rw[E];exact zgy Z
    refine gq ?_;refine ym ?_ ?_;all_goals exact zE hE
  ·have Q:(([.fn 358 [],iv 1,iv 0,.fn 357 [.ept (λ_:Unit=>[iv 0]) () 0],iv 0,iv 0,.fn 357 [.ept (λ_:Unit=>[iv 1]) () 0],iv 1,iv 2,.fn 359 [],iv 4,iv 3,.fn 357 [.ept (λ_:Unit=>[iv 2]) () 0],iv 3,iv 4]:List AV).drop (((n:Nat):Int).toNat*3)).take 3=[.fn 357 [.ept (λ_:Unit=>[iv 2]) () 0],iv 3,iv 4]:=by rw[hn];rfl
   apply yj;refine ya (hs:=by exact zF ArK.h TyK.h rfl rfl (by omega) (by omega) Q) ?_;refine gc (zbU s 2 hN) ?_;refine gd ?_ ?_<;>intro U
   ·have j2:¬s.Count.N%3=2:=by first|exact U|(rw[U];decide)|(simp at U;simp[U];done)|omega
    refine gq ?_
    refine yz (n+1) (hJ:=by
     refine⟨by omega,?_,?_,?_,?_,?_⟩<;>intro h6<;>first|assumption|(exact absurd h6 (by omega))|(exact T (by omega))|(exact xT (by omega))|(exact x4 (by omega))|(exact x2 (by omega))|(exact x3 (by omega)))
   have hy:s.Count.N%3=2:=by first|exact U|(simp at U;exact U)|omega
   have E:(wnL s).find? (λc=>decide (c∈A))=[(3:Int),4].find? (λc=>decide (c∈A)):=by
    have h0:=T;rw[show wnL s=[3,4]by unfold wnL;simp_all]
   refine gq ?_;refine yD intE [_,_] ?_;refine yO ?_;apply kB;refine zM (λj=>[(1,yc A),(2,.ptr 2 0 0 0),(4,iv 0),(5,.bool false),(10,.agg [.fn 358 [],iv 1,iv 0,.fn 357 [.ept (λ_:Unit=>[iv 0]) () 0],iv 0,iv 0,.fn 357 [.ept (λ_:Unit=>[iv 1]) () 0],iv 1,iv 2,.fn 359 [],iv 4,iv 3,.fn 357 [.ept (λ_:Unit=>[iv 2]) () 0],iv 3,iv 4]),(11,iv (n:Int)),(23,.own 23),(24,iv 2),(25,iv (j:Int))]) (λj=>[(2,.box (smE s) 317),(23,.row intE [3,4] 3 1)]) (λj=>j<=2/\∀i:Nat,i<j->∀d,([3,4]:List Int)[i]? =some d->d∉A) 2 (λj hk=>?_) (hJ:=by exact⟨by omega,λi hi=>absurd hi (by omega)⟩) (h0:=yd);obtain⟨x0,Z⟩:=hk;refine gd ?_ ?_<;>intro v1
   ·obtain⟨x,hx⟩:∃x,([3,4]:List Int)[j]? =some x:=⟨_,lgg (by simp;omega)⟩;have x1:([3,4]:List Int)[(j:Int).toNat]? =some x:=by simpa using hx
    refine gc (yU A x (by omega)) ?_;refine gd ?_ ?_<;>intro v8
    ·have hE:chF s A=some x:=by unfold chF;rw[E];exact zix hx (by simpa using v8) Z
     refine gq ?_;refine ym ?_ ?_;all_goals exact zE hE
    refine gq ?_;refine yz (j+1) (hJ:=by exact⟨by omega,zgz hx (by simpa using v8) Z⟩)
   ·have J:j=2:=by omega
    subst J;have hE:chF s A=none:=by unfold chF;rw[E];exact zgy Z
    refine gq ?_;refine ym ?_ ?_;all_goals exact zE hE
 ·exfalso;have a:=xT (by omega);have b:=x4 (by omega);have c:=x3 (by omega);omega
end
section
attribute [local irreducible] Pur yA yC Ex X Fn Imp LeV LeB FnO It yH FnW FnOW
attribute [local irreducible] stK okJ alK alQ chN chL segV segE unT rfA
set_option maxHeartbeats 2000000 in
def zgA(m:Mn)(k:Int)(l:List Ite)(M:List Int)(h0:-9223372036854775808<=k)(H:k<=9223372036854775807)(hl:l.length<=1000000)(hM:M.length<=4000000)(hE:segE m k l=0)(hX:(decide (((segV m k l).length:Int)<=(M.length:Int)))=false)(hok:okJ (unT m k) k (segV m k l) l M M.length=true)(hN:∀s∈segV m k l,0<=s.Count.N)(hMS:M.length<=(segV m k l).length):FnO prog 298 [mnA m,iv k,itsA l,yc M] [] [] (.tup [.own 42,iv 0]) [(42,.row intE (alK (unT m k) k (segV m k l) l M M.length) 3 1)]:=by
 have G:=zaJ m k l;have hu:=zhp (zdx hE).1;have V:=zet hE;obtain⟨s,hs⟩:∃s,(segV m k l)[M.length]? =some s:=⟨_,lgg (by simp at hX;omega)⟩;have E:(segV m k l)[(M.length:Int).toNat]? =some s:=by simpa using hs
 have U:=V.all s (j6 hs);have T:=zkC U.b (zb2 (unT m k) (segV m k l) l M M.length);have Q:=hN s (j6 hs);have xT:=zb2 (unT m k) (segV m k l) l M M.length;have x4:alQ (unT m k) k (stK (unT m k) (segV m k l) l M M.length).1 (stK (unT m k) (segV m k l) l M M.length).2 s=alK (unT m k) k (segV m k l) l M M.length:=by unfold alK;rw[show(segV m k l).getD M.length default=s by rw[j8,hs];rfl]
 refine kX (ts:=[(0,mnA m),(1,iv k),(2,itsA l),(3,yc M)]) (rv:=[.tmp 8,.tmp 9]) (n:=43) (cs:=[]) (by kernel_rfl) func298 rfl ntmps298 rfl rfl (by simp) rfl rfl rfl rfl (λg w d vs=>?_);refine gq ?_;refine zV [(36,2000000),(30,2000001),(34,2000002)] (zaT m k l h0 H hl hE) ?_;refine gd ?_ ?_<;>intro J
 ·exact absurd rfl J
 apply yk;iterate 2 apply yf
 have I:((decide (((segV m k l).length:Int)<=(M.length:Int)))==false)=true:=by rw[hX];rfl
 ·apply yj;iterate 6 refine ya ?_
  iterate 3 refine zag ?_
  refine yS rfl rfl I ?_;refine zV [(2000000,2000000),(2000001,2000001),(2000002,2000002)] (zbz (unT m k) k (segV m k l) l M V hN hMS hl (by omega) (by omega) (by omega) hok) ?_;refine zag ?_;refine gd ?_ ?_<;>intro Z
  ·first|(exact absurd Z.2 (by decide))|(cases Z;done)|(exact absurd Z (by simp[hX]))|(simp[hX]at Z;done)|(rcases Z with h|h<;>first|(cases h;done)|(exact absurd h (by simpa using hX))|(simp[hX]at h;done)|(exact absurd h (by decide)))
  refine gq ?_;refine kT (A_lendO (ι:=Nat) (stF:=λb=>⟨[(36,.ept (λ_:Unit=>[.sl itE (stK (unT m k) (segV m k l) l M M.length).1,iv k,iv (unT m k).N,iv (unT m k).D,.val (.map (some b))]) () 0),(41,smA s)],[]⟩) 42 (λg a w hr=>zrx (k:=2000002) rfl (λb=>(k9 (k:=2000001) rfl).trans ((y5 (k:=2000000) rfl rfl).trans yd)) (λ_=>rfl) (λ_=>rfl) hr) (λb=>za0 (stK (unT m k) (segV m k l) l M M.length).1 k (unT m k) b (stK (unT m k) (segV m k l) l M M.length).2 s T (by omega) (by omega) (by omega) Q)) rfl rfl ?_;refine yO ?_;refine kE ?_;refine zc8 (st':=⟨[(8,.own 42),(9,iv 0)],[(1000001,.hold vs []),(42,.row intE (alK (unT m k) k (segV m k l) l M M.length) 3 1)]⟩) (by first|exact yd|exact yi) ?_;refine zkj.mk [(8,.own 42),(9,iv 0)] [] (.inr rfl) (.many (by decide) (.cons (.tmp rfl (kC ?_)) (.cons (.tmp rfl (kC ?_)) .nil)));all_goals rfl
set_option maxHeartbeats 4000000 in
def zdC(m:Mn)(k:Int)(l:List Ite)(M:List Int)(h0:-9223372036854775808<=k)(h1:k<=9223372036854775807)(hl:l.length<=1000000)(hM:M.length<=1000000)(hE:segE m k l=0)(hX:(decide (((segV m k l).length:Int)<=(M.length:Int)))=false)(hN:∀s∈segV m k l,0<=s.Count.N)(hMS:M.length<=(segV m k l).length)(hok:okJ (unT m k) k (segV m k l) l M M.length=true):FnO prog 288 [mnA m,iv k,itsA l,yc M] [] [] (.tup [.own 45,iv 0]) [(45,.row intE (alK (unT m k) k (segV m k l) l M M.length) 3 1)]:=by
 have v9:=zaJ m k l;have hu:=zhp (zdx hE).1;have Z:=zet hE;have hF:=zgp hE;have hP:=zcE (zdx hE).2.1;have U:∀x∈l,0<=x.Cut:=λx hx=>(zg3 (hP x hx)).1.2.2.1
 have v8:l=(stK (unT m k) (segV m k l) l M 0).1:=by unfold stK;rfl
 have v5:[]=M.take 0:=by simp
 refine kX (ts:=[(0,mnA m),(1,iv k),(2,itsA l),(3,yc M)]) (rv:=[.tmp 8,.tmp 9]) (n:=46) (cs:=[]) (by kernel_rfl) func288 rfl ntmps288 rfl rfl (by simp) rfl rfl rfl rfl (λg w d vs=>?_);refine gq ?_;refine zV [(36,2000000),(31,2000001),(40,2000002)] (zP m k l h0 h1 hl hE) ?_;refine gd ?_ ?_<;>intro xT
 ·exact absurd rfl xT
 apply yk;apply yf;apply ye;iterate 3 refine ya ?_
 refine ya ?_ (hs:=by exact yg rfl);refine gd ?_ ?_<;>intro I
 ·first|(exact absurd hX (by simp;omega))|(exact absurd hX (by simp[I]))|(simp at hX;omega)
 apply yk;apply yf;apply ye;refine yh ?_;apply kB;refine zu (λn=>[(3,yc M),(10,.ptr 2000000 0 0 0),(12,iv (n:Int))]) (λn=>[(1000001,.hold vs []),(2000000,.box [iv (unT m k).N,iv (unT m k).D,iv k,itsA l,.own 2000001,smsA (segV m k l),.own 2000002] 322),(2000001,.row itE ((stK (unT m k) (segV m k l) l M n).1) 183 12),(2000002,.row intE (M.take n) 3 1)]) M.length (λn hk=>?_);refine gd ?_ ?_<;>intro v4
 ·obtain⟨s,hs⟩:∃s,(segV m k l)[n]? =some s:=⟨_,lgg (by omega)⟩;obtain⟨c,E⟩:∃c,M[n]? =some c:=⟨_,lgg (by omega)⟩;have I:M[(n:Int).toNat]? =some c:=by simpa using E
  have Q:=zb2 (unT m k) (segV m k l) l M n;have V:=Z.all s (j6 hs);have x0:=(zlS (u:=unT m k) (l:=l) hs E).1;have w2:=zfR E;have J:=hN s (j6 hs);have x4:=zlR (u:=unT m k) (k:=k) (l:=l) hs E;have H:(M.take n).length=n:=by rw[jM];omega
  have x3:(segV m k l)[(M.take n).length]? =some s:=by rw[H];exact hs
  have x2:∀(hk:okJ (unT m k) k (segV m k l) l M n=true),rfA (unT m k) k (segV m k l) l (stK (unT m k) (segV m k l) l M n).1 (M.take n) (M.take n).length=alQ (unT m k) k (stK (unT m k) (segV m k l) l M n).1 (stK (unT m k) (segV m k l) l M n).2 s:=λhk=>by
   rw[H,zio,zkG U Z hF (by omega) hk];unfold alK;rw[show(segV m k l).getD n default=s by rw[j8,hs];rfl]
  have x1:=zg6 hok (show n<=M.length by omega)
  have T:c∈alQ (unT m k) k (stK (unT m k) (segV m k l) l M n).1 (stK (unT m k) (segV m k l) l M n).2 s:=by
   have h:=zg6 hok (show n+1<=M.length by omega);rw[x4]at h;simpa using(vP.1 h).2
  refine gq ?_;refine zV [(2000000,2000000),(2000001,2000001),(2000002,2000002),(2000012,2000012)] (zC (unT m k) k l (stK (unT m k) (segV m k l) l M n).1 (segV m k l) (M.take n) s x3 V.b hl Q (by omega) (by omega) (by omega) J c (by rw[x2 x1];exact T) (zg5 V.ft T)) ?_;refine kU (st':=⟨[(3,yc M),(10,.ptr 2000000 0 0 0),(12,iv (n:Int)),(42,.bool true)],[(1000001,.hold vs []),(2000000,.box [iv (unT m k).N,iv (unT m k).D,iv k,itsA l,.own 2000001,smsA (segV m k l),.own 2000012] 322),(2000001,.row itE ((stK (unT m k) (segV m k l) l M (n+1)).1) 183 12),(2000012,.row intE (M.take (n+1)) 3 1)]⟩) yi ?_;refine kU (st':=⟨[(3,yc M),(10,.ptr 2000000 0 0 0),(12,iv (n:Int)),(42,.bool true)],[(1000001,.hold vs []),(2000000,.box [iv (unT m k).N,iv (unT m k).D,iv k,itsA l,.own 2000001,smsA (segV m k l),.own 2000002] 322),(2000001,.row itE ((stK (unT m k) (segV m k l) l M (n+1)).1) 183 12),(2000002,.row intE (M.take (n+1)) 3 1)]⟩) ((bD 2000012 2000002 rfl rfl).trans yd) ?_;refine gd ?_ ?_<;>intro G
  ·first|(cases G;done)|(exact absurd G (by decide))
  refine gq ?_;refine yz (n+1) (hI:=yi)
 ·have hn:n=M.length:=by omega
  subst hn;obtain⟨s,hs⟩:∃s,(segV m k l)[M.length]? =some s:=⟨_,lgg (by simp at hX;omega)⟩;have V:=Z.all s (j6 hs);have J:=hN s (j6 hs);have Q:=zb2 (unT m k) (segV m k l) l M M.length;have v3:M.take M.length=M:=jH;have v1:rfA (unT m k) k (segV m k l) l (stK (unT m k) (segV m k l) l M M.length).1 M M.length=alK (unT m k) k (segV m k l) l M M.length:=zkG U Z hF (by simp at hX;omega) hok;apply kO;apply ye;refine ya ?_;refine kU (st':=⟨[(44,.ptr 2000000 0 0 0)],[(1000001,.hold vs []),(2000000,.box [iv (unT m k).N,iv (unT m k).D,iv k,itsA l,.own 2000001,smsA (segV m k l),.own 2000002] 322),(2000001,.row itE ((stK (unT m k) (segV m k l) l M M.length).1) 183 12),(2000002,.row intE (M) 3 1)]⟩) yi ?_;refine kT (A_lendO (ι:=Unit) (stF:=λ_=>⟨[(44,.ept (λ_:Unit=>[iv (unT m k).N,iv (unT m k).D,iv k,itsA l,itsA (stK (unT m k) (segV m k l) l M M.length).1,smsA (segV m k l),yc M]) () 0)],[]⟩) 45 (λg a w hr=>zmz ((k9 (k:=2000001) rfl).trans ((k9 (k:=2000002) rfl).trans ((y5 (k:=2000000) rfl rfl).trans yd))) hr) (λ_=>zU (unT m k) k l (stK (unT m k) (segV m k l) l M M.length).1 (segV m k l) M s hs V.b hl Q (by omega) (by omega) (by omega) J)) rfl rfl ?_;refine yO ?_;refine kE ?_;refine zc8 (st':=⟨[(8,.own 45),(9,iv 0)],[(1000001,.hold vs []),(45,.row intE (alK (unT m k) k (segV m k l) l M M.length) 3 1)]⟩) (by first|exact yd|exact yi) ?_;refine zkj.mk [(8,.own 45),(9,iv 0)] [] (.inr rfl) (.many (by decide) (.cons (.tmp rfl (kC ?_)) (.cons (.tmp rfl (kC ?_)) .nil)));all_goals rfl
end
end Go.Rse
namespace Go.Rse
open Go Go.RowKit Go.Proofs.Tryz
section
variable{P:Program}{C:Ctx}{st:St}{ty:TypeId}
def zn1{fop:Operand}{args:Array Operand}{ts:Array TypeId}{f:FuncId}{caps xs az fl:List AV}{α:Type}{enc:α->List AV}{l:List α}{E s q:Nat}{stF:St}(k:Nat)(hi:Imp C st stF)(h:FnO P f az [] [] (.tup (.own q::fl)) [(q,.row enc l E s)])
 (v8:∀x,AV.flat.flatL (enc x)=true:=by intro x;rfl)(v5:AV.flat.flatL fl=true:=by rfl)(hf:ev stF fop=some (.fn f caps):=by rfl)(hx:evs stF args.toList=some xs:=by rfl)(v4:LeL (xs++caps) az:=by exact kS _):
 yA P C (.call {callee:=.value fop,args:=args,argTypes:=ts}) ty st (.tup (.own k::fl)) (some (k,.row enc l E s)):=λg a w dst pos af gd T K hK=>by
 obtain⟨gF,U⟩:=hi g a w T;obtain⟨us,e,v3,hu⟩:=zcX (yy U hf);have Q:=zeM U hx;have xT:RVL gF.I gF.ρ az (args.toList.map a.eval++us):=v4.rvl (Q.append ⟨v3,hu⟩);obtain⟨dc,x4,_⟩:=zc2 gF.O w.heap.size [] U.sat.ob.1;have h0:=h.2 dc gF.ρ gF.I gF.O w _ ⟨U.sat.im,U.sat.ob,λk B hB=>by simp[lk]at hB⟩ xT;have e1:(args.toList.map a.eval++us).toArray=args.map a.eval++us.toArray:=by simp[←Array.toList_map]
 rw[e1]at h0
 have e2:(execOp a.eval {dst:=dst,op:=.call {callee:=.value fop,args:=args,argTypes:=ts},type:=ty,pos:=pos,after:=af,guard:=gd}).run P w=.ok (.enter f (args.map a.eval++us.toArray)) w:=by
  simp only[execOp,resolve,e,Deferred.ofValue,jK,jL,j9,invoke,zS h.1];simp
 unfold wp1;rw[e2];refine Calls.mono h0 ?_
 rintro e w'⟨v,ρ',I',O',rfl,hs,hv,Z,_⟩
 refine⟨v,rfl,?_⟩
 have N:Grow w w':=⟨Z.os,Z.tape,Z.output,Z.drawn,Z.size,λb V=>(Z.keep b V (λhk=>by
  rcases hk with hk|⟨n,hk⟩
  ·exact absurd hk (xZ.2 V)
  ·exact x4 b n hk) (λ⟨y,n,hy,_⟩=>by simp at hy)).1⟩
 cases hv with
 |tup _ vs hl x3=>
 cases vs with
 |nil=>simp at hl
 |cons v0 vr=>
 have v1:RV I' ρ' (.own q) v0:=x3 0 _ _ (by rfl) (by rfl);let g3:Gh:={ρ:=λn=>if n=k then v0 else g.ρ n,I:=g.I,O:=λb=>if b<w.heap.size then g.O b else(match O' b with|some (y,n)=>if y=dc/\n=q then some (C.d,k)else none|none=>none)};have x2:∀b,b<w.heap.size->g3.O b=g.O b:=λb V=>by simp[g3,V]
 have J:ρ' q=v0:=zZ v1;obtain⟨xs',p1,p2,p3,p4⟩:=hs.blk q (.row enc l E s) (by simp[yq])
 have x1:∀b,yY (ρ' q)=some b->O' b=some (dc,q)/\w.heap.size<=b:=λb V=>by
  obtain⟨q1,q2⟩:=p4 b V;refine⟨q1,?_⟩;rcases q2 with q2|⟨n,q2⟩
  ·exact q2
  ·exact absurd q2 (x4 b n)
 have u4:ImOB g3 w':=by
  refine⟨λb o u hI=>?_,λb p hO=>?_,T.sat.ob.2⟩
  ·obtain⟨q1,q2⟩:=T.sat.im b o u hI;exact⟨N.cell q1,by rw[x2 b (zct q1)];exact q2⟩
  ·rcases wA b w.heap.size with V|V
   ·exact jS V N.size
   ·simp only[g3,Nat.not_lt.2 V,if_false]at hO;cases x0:O' b with
    |none=>simp[x0]at hO
    |some q=>exact hs.ob.1 b q x0
 refine hK _ w' g3 ⟨bE _,λn hn=>?_,x2,N⟩ ?_ u4 (λk' B hB=>?_)
 ·have:n≠k:=λe=>hn (by simp[e])
  simp[g3,this]
 ·refine .tup _ _ (by simpa using hl) (λj c u G H=>?_)
  match j with
  |0=>
   simp at G H;subst G;subst H;rcases p1.2 with⟨e,_⟩|⟨b,cap,cur,e,_⟩<;>
   ·have e:ρ' q=_:=e;rw[J]at e;rw[e];exact .own k _ _ _ (by simp[g3,e])
  |j+1=>
   have w2:fl[j]? =some c:=by simpa using G
   exact(x3 (j+1) c u (by simpa using w2) H).flat (zaX v5 w2)
 ·injection hB with hB;injection hB with e3 e4;subst e3;subst e4;have v9:g3.ρ k=v0:=by simp[g3]
  refine⟨xs',by rw[v9,←J];exact p1,p2,λj x q c u hx G hu=>(p3 j x q c u hx G hu).flat (zaX (v8 x) G),λb V=>?_⟩;rw[v9,←J]at V;obtain⟨q1,q2⟩:=x1 b V;refine⟨by simp[g3,Nat.not_lt.2 q2,q1],.inl (jQ T.ext.size q2)⟩
end
end Go.Rse
