/-
  Walks.
-/
import Derived.Test.YtamceaedmdmmlaaGreatDoorZJWri7
set_option linter.all false
set_option maxHeartbeats 16000000
namespace Go.Rse
open Go Go.Proofs Go.Proofs.Tryz
section
attribute [local irreducible] Pur yy yz Ex X Fn Imp LeV LeB FnO It yH FnW FnOW FnP FnD
attribute [local irreducible] wcE blE blV pmJ meU brS addE addV yw
def zek(m:Mn)(hm:ckM m=0):Fn prog 60 [mnA m] (tmA (meU m)):=by
 have N:(3:Int)=pmJ m 0:=by unfold pmJ;rfl
 have V:=zxf hm;obtain⟨e1,e2,e3⟩:=V;have U:Fn prog 98 [mnA m,iv (pmJ m 4)] (.tup [tmA (meU m),iv 0]):=by rw[e1,←zs5 m];exact zy hm e2 (by omega)
 refine kR func60 ntmps60 (λg w d=>?_);apply ye;refine zz ?_;refine za ?_;apply yE;refine yj ?_;apply yh;apply ye;refine yj ?_;apply kP;refine zm (λj=>[(1,.ptr 1 0 0 0),(2,.ptr 2 0 0 0),(3,iv (pmJ m j)),(4,iv (4-(j:Int)))]) (λj=>[(1,.box (mnE m) 27),(2,.box [iv 0,iv 0] 61)]) 4 (λj hk=>?_);refine gd ?_ ?_<;>intro J
 ·refine gc (yX m (4-(j:Int))) ?_;refine gd ?_ ?_<;>intro Z
  ·have T:=zz1 Z;refine gq ?_;refine yu (j+1) (hI:=yg)
  ·have T:=zz2 Z;refine gq ?_;refine yu (j+1) (hI:=yg)
 ·obtain rfl:j=4:=by omega
  refine gc U ?_;refine kY (.one (.cellA rfl rfl rfl rfl ty61 (kO ?_)));all_goals rfl
def zey(m:Mn)(l:List Bt)(hl:l.length<=1000000):Fn prog 31 [mnA m,btsA l] (.tup [blsA (blV m l),iv (blE m l)]):=by
 have v8:[]=(brS (meU m) l 0).2.2:=by unfold brS;rfl
 have v5:[]=(brS (meU m) l 0).2.1:=by unfold brS;rfl
 have v4:tmE ⟨0,1⟩=tmE (brS (meU m) l 0).1:=by unfold brS;rfl
 refine kR func31 ntmps31 (λg w d=>?_);refine gc (za8 m l (by omega)) ?_;refine gd ?_ ?_<;>intro E
 ·have xT:=zBE E;obtain⟨hE,Z⟩:=xT;apply ye;refine yC ?_;refine kQ ?_;refine kM (yd (ts:=[(4,blsA []),(5,iv (wcE m l))]) (hs:=[])) ?_;refine yl ?_ ?_;all_goals(first|exact zE hE|exact zE Z|exact j9 (λz=>blsA z) Z|exact j9 (AV.int .i64) hE.symm)
 have h0:wcE m l=0:=by omega
 have hM:ckM m=0:=by apply jV;intro hn;rw[zr5 hn]at h0;exact hn h0
 have x4:=zvY hM;obtain⟨u1,u2,u3,u4⟩:=x4;apply yk;apply ye;refine yj ?_;apply yh;refine kT (yG btsE 29 1 7 30 rfl rfl) ?_;apply yf;refine yj ?_;apply yh;refine kT (yG btE 63 3 8 31 rfl rfl) ?_;apply yf;refine ya ?_;refine za ?_;refine kV ?_;apply kW;apply yh;apply ye;refine yj ?_;apply kP;refine zW (λk=>[(1,btsA l),(2,.ptr 2 0 0 0),(7,.own 30),(8,.own 31),(9,.ptr 9 0 0 0),(10,iv (k:Int))]) (λk=>[(2,.box (mnE m) 27),(9,.box (tmE (brS (meU m) l k).1) 61),(30,.row btsE (brS (meU m) l k).2.2 29 1),(31,.row btE (brS (meU m) l k).2.1 63 3)]) (λk=>k<=l.length/\BrJ (meU m) l k) l.length (λk hk=>?_) (hJ:=by exact⟨wK _,zz3 _ _⟩);obtain⟨k1,k2⟩:=hk;refine gd ?_ ?_<;>intro v3
 ·have x3:=@getX _ l k (by omega);obtain⟨b,H,v2⟩:=x3;have hn:=k2.n;refine gq ?_;refine bI [⟨0,28,tmA (brS (meU m) l k).1,[]⟩,⟨1,29,btsA l,[]⟩,⟨2,30,iv (k:Int),[]⟩,⟨3,31,.ept btE b 0,[2,1]⟩,⟨4,32,.ept btE b (0+0),[2,1,3]⟩,⟨5,33,tmA b.Dur,[2,1,3,4]⟩,⟨6,34,.tup [tmA (addV (brS (meU m) l k).1 b.Dur),iv (addE (brS (meU m) l k).1 b.Dur)],[2,1,3,4,5,0]⟩,⟨7,27,.tup [tmA (addV (brS (meU m) l k).1 b.Dur),iv (addE (brS (meU m) l k).1 b.Dur)],[2,1,3,4,5,0,6]⟩,⟨8,35,tmA (addV (brS (meU m) l k).1 b.Dur),[2,1,3,4,5,0,6,7]⟩,⟨9,36,iv (addE (brS (meU m) l k).1 b.Dur),[2,1,3,4,5,0,6,7]⟩] [(10,[]),(11,[7,5,4,3,2,1,0,6,8,10]),(12,[10,8,7,6,5,4,3,2,1,0,11,9])] (λj=>match j with|0=>⟨[(1,btsA l),(2,.ptr 2 0 0 0),(7,.own 30),(8,.own 31),(9,.ptr 9 0 0 0),(10,iv (k:Int))],[(2,.box (mnE m) 27),(9,.box (tmE (brS (meU m) l k).1) 61),(30,.row btsE (brS (meU m) l k).2.2 29 1),(31,.row btE (brS (meU m) l k).2.1 63 3)]⟩|1=>⟨[(1,btsA l),(2,.ptr 2 0 0 0),(7,.own 30),(8,.own 31),(9,.ptr 9 0 0 0),(10,iv (k:Int)),(11,.ptr 11 0 0 0)],[(2,.box (mnE m) 27),(9,.box (tmE (brS (meU m) l k).1) 61),(30,.row btsE (brS (meU m) l k).2.2 29 1),(31,.row btE (brS (meU m) l k).2.1 63 3),(11,.box [iv 0,iv 0] 61)]⟩|2=>⟨[(1,btsA l),(2,.ptr 2 0 0 0),(7,.own 30),(8,.own 31),(9,.ptr 9 0 0 0),(10,iv (k:Int)),(11,.ptr 11 0 0 0)],[(2,.box (mnE m) 27),(9,.box (tmE (brS (meU m) l k).1) 61),(30,.row btsE (brS (meU m) l k).2.2 29 1),(31,.row btE (brS (meU m) l k).2.1 63 3),(11,.box (tmE (addV (brS (meU m) l k).1 b.Dur)) 61)]⟩|_=>⟨[(1,btsA l),(2,.ptr 2 0 0 0),(7,.own 30),(8,.own 31),(9,.ptr 9 0 0 0),(10,iv (k:Int)),(11,.ptr 11 0 0 0),(12,iv (addE (brS (meU m) l k).1 b.Dur))],[(2,.box (mnE m) 27),(9,.box (tmE (brS (meU m) l k).1) 61),(30,.row btsE (brS (meU m) l k).2.2 29 1),(31,.row btE (brS (meU m) l k).2.1 63 3),(11,.box (tmE (addV (brS (meU m) l k).1 b.Dur)) 61)]⟩) mo (by kernel_rfl) (zj (yd)) (λj hj=>?_) (λj c G β hβ=>?_) ?_
  ·rcases j with _|_|_|_|j
   ·(iterate 6 refine⟨.inr ⟨_,rfl,rfl,rfl,rfl,kK yK⟩,?_⟩);refine⟨.inr ⟨_,rfl,rfl,rfl,rfl,z7 rfl rfl rfl (bC _) (y4 (brS (meU m) l k).1 b.Dur)⟩,?_⟩;exact yF
   ·(iterate 6 refine⟨.inr ⟨_,rfl,rfl,rfl,rfl,kK yK⟩,?_⟩);refine⟨.inr ⟨_,rfl,rfl,rfl,rfl,z7 rfl rfl rfl (bC _) (y4 (brS (meU m) l k).1 b.Dur)⟩,?_⟩;exact yF
   ·exact yF
   ·exact yF
   ·exact absurd (show j+4<=3 from hj) (by omega)
  ·rcases j with _|_|_|j
   ·obtain rfl:(10,[])=c:=by injection G
    refine yp rfl (yn (st0:=⟨[(28,.ifb (β 0) (tmA (brS (meU m) l k).1)),(29,.ifb (β 1) (btsA l)),(30,.ifb (β 2) (iv (k:Int))),(31,.ifb (β 3) (.ept btE b 0)),(32,.ifb (β 4) (.ept btE b (0+0))),(33,.ifb (β 5) (tmA b.Dur)),(34,.ifb (β 6) (.tup [tmA (addV (brS (meU m) l k).1 b.Dur),iv (addE (brS (meU m) l k).1 b.Dur)])),(27,.ifb (β 7) (.tup [tmA (addV (brS (meU m) l k).1 b.Dur),iv (addE (brS (meU m) l k).1 b.Dur)])),(35,.ifb (β 8) (tmA (addV (brS (meU m) l k).1 b.Dur))),(36,.ifb (β 9) (iv (addE (brS (meU m) l k).1 b.Dur))),(1,btsA l),(2,.ptr 2 0 0 0),(7,.own 30),(8,.own 31),(9,.ptr 9 0 0 0),(10,iv (k:Int))],[(2,.box (mnE m) 27),(9,.box (tmE (brS (meU m) l k).1) 61),(30,.row btsE (brS (meU m) l k).2.2 29 1),(31,.row btE (brS (meU m) l k).2.1 63 3)]⟩) (ym) ?_);refine yz.imp (yL (zp (k:=11) zc61) rfl rfl) (ym)
   ·obtain rfl:(11,[7,5,4,3,2,1,0,6,8,10])=c:=by injection G
    refine yp rfl (yn (st0:=⟨[(28,tmA (brS (meU m) l k).1),(29,btsA l),(30,iv (k:Int)),(31,.ept btE b 0),(32,.ept btE b (0+0)),(33,tmA b.Dur),(34,.tup [tmA (addV (brS (meU m) l k).1 b.Dur),iv (addE (brS (meU m) l k).1 b.Dur)]),(27,.tup [tmA (addV (brS (meU m) l k).1 b.Dur),iv (addE (brS (meU m) l k).1 b.Dur)]),(35,tmA (addV (brS (meU m) l k).1 b.Dur)),(36,.ifb (β 9) (iv (addE (brS (meU m) l k).1 b.Dur))),(1,btsA l),(2,.ptr 2 0 0 0),(7,.own 30),(8,.own 31),(9,.ptr 9 0 0 0),(10,iv (k:Int)),(11,.ptr 11 0 0 0)],[(2,.box (mnE m) 27),(9,.box (tmE (brS (meU m) l k).1) 61),(30,.row btsE (brS (meU m) l k).2.2 29 1),(31,.row btE (brS (meU m) l k).2.1 63 3),(11,.box [iv 0,iv 0] 61)]⟩) (ym) ?_);refine yz.imp (zaV rfl rfl rfl rfl ty61 rfl (leB rfl)) (ym)
   ·obtain rfl:(12,[10,8,7,6,5,4,3,2,1,0,11,9])=c:=by injection G
    refine yp rfl (yn (st0:=⟨[(28,tmA (brS (meU m) l k).1),(29,btsA l),(30,iv (k:Int)),(31,.ept btE b 0),(32,.ept btE b (0+0)),(33,tmA b.Dur),(34,.tup [tmA (addV (brS (meU m) l k).1 b.Dur),iv (addE (brS (meU m) l k).1 b.Dur)]),(27,.tup [tmA (addV (brS (meU m) l k).1 b.Dur),iv (addE (brS (meU m) l k).1 b.Dur)]),(35,tmA (addV (brS (meU m) l k).1 b.Dur)),(36,iv (addE (brS (meU m) l k).1 b.Dur)),(1,btsA l),(2,.ptr 2 0 0 0),(7,.own 30),(8,.own 31),(9,.ptr 9 0 0 0),(10,iv (k:Int)),(11,.ptr 11 0 0 0)],[(2,.box (mnE m) 27),(9,.box (tmE (brS (meU m) l k).1) 61),(30,.row btsE (brS (meU m) l k).2.2 29 1),(31,.row btE (brS (meU m) l k).2.1 63 3),(11,.box (tmE (addV (brS (meU m) l k).1 b.Dur)) 61)]⟩) (ym) ?_);refine yz.imp (yL (kK (zcf rfl)) rfl rfl) (ym)
   ·exact absurd G (by simp)
  refine gd ?_ ?_<;>intro x2
  ·have x1:=zEk h0 k2 H x2;obtain⟨hE,Z⟩:=x1;apply ye;refine yC ?_;refine kQ ?_;refine kM (yd (ts:=[(4,blsA []),(5,iv (addE (brS (meU m) l k).1 b.Dur))]) (hs:=[])) ?_;refine yl ?_ ?_;all_goals(first|exact zE hE|exact zE Z|exact j9 (λz=>blsA z) Z|exact j9 (AV.int .i64) hE.symm)
  have ha:addE (brS (meU m) l k).1 b.Dur=0:=by omega
  have x0:=zoD ha;obtain⟨a1,a2,a3⟩:=x0;have hw:=zxe hM a3;have v1:=zM a3;have T:=k2.s H ha;refine gq ?_;refine yD btE [b] ?_;refine gq ?_;refine yR (zek m hM) ?_;refine za ?_;refine kV ?_;apply kW;apply yh;refine kT (st':=⟨[(1,btsA l),(2,.ptr 2 0 0 0),(7,.own 30),(8,.own 31),(9,.ptr 9 0 0 0),(10,iv (k:Int)),(13,.ptr 13 0 0 0)],[(2,.box (mnE m) 27),(9,.box (tmE (addV (brS (meU m) l k).1 b.Dur)) 61),(30,.row btsE (brS (meU m) l k).2.2 29 1),(31,.row btE ((brS (meU m) l k).2.1++[b]) 63 3),(13,.box (tmE (meU m)) 61)]⟩) yg ?_;apply yf;iterate 3 refine ya ?_
  refine kU 3 ?_;refine yo ?_;iterate 6 refine kS ?_
  refine gf ?_ ?_<;>intro V
  ·have U:whB (meU m) (addV (brS (meU m) l k).1 b.Dur)=true:=by rw[hw,jJ V.1,jJ V.2];rfl
   have w9:=zEi H U;obtain⟨g1,g2,g3⟩:=w9;apply yh;refine kT (kL (k:=31) rfl) ?_;refine gq ?_;refine yD btsE [(brS (meU m) l k).2.1++[b]] ?_;refine kV ?_;refine ya ?_;apply yE;refine yj ?_;refine kT (st':=⟨[(1,btsA l),(2,.ptr 2 0 0 0),(7,.own 30),(8,.nils),(9,.ptr 9 0 0 0),(10,iv (k:Int))],[(2,.box (mnE m) 27),(9,.box (tmE (addV (brS (meU m) l k).1 b.Dur)) 61),(30,.row btsE ((brS (meU m) l k).2.2++[(brS (meU m) l k).2.1++[b]]) 29 1)]⟩) yg ?_;refine kT (yG btE 63 3 8 31 rfl rfl) ?_;refine gq ?_;refine yu (k+1) (hJ:=by exact⟨by omega,T⟩) (hI:=yg)
  ·have U:¬whB (meU m) (addV (brS (meU m) l k).1 b.Dur)=true:=by
    rw[hw];intro e;rw[jA,jZ,jZ]at e;rcases V with h|h
    ·exact h e.1
    ·exact h e.2
   have w2:=zEj H U;obtain⟨g1,g2,g3⟩:=w2;have g4:setAt (tmE (brS (meU m) l k).1) (0*0+0) (tmE (addV (brS (meU m) l k).1 b.Dur))=tmE (brS (meU m) l (k+1)).1:=g1;refine gq ?_;refine yu (k+1) (hJ:=by exact⟨by omega,T⟩) (hI:=yg)
 ·obtain rfl:k=l.length:=by omega
  have v9:=zEl h0 k2;obtain⟨hE,N⟩:=v9;have hn:=k2.n;refine gd ?_ ?_<;>intro J
  ·have Z:(brS (meU m) l l.length).2.2++[(brS (meU m) l l.length).2.1]=blV m l:=by rw[N,j7 (λe=>by rw[e]at J;exact absurd J (by decide))]
   refine kT (kL (k:=31) rfl) ?_;refine gq ?_;refine yD btsE [(brS (meU m) l l.length).2.1] ?_;refine kV ?_;refine ya ?_;apply yE;refine yC ?_;refine kQ ?_;refine kM (kL (k:=30) rfl) ?_;refine yl ?_ ?_;all_goals(first|exact zE hE|exact zE Z|exact j9 (λz=>blsA z) Z|exact j9 (AV.int .i64) hE.symm)
  ·have Z:(brS (meU m) l l.length).2.2=blV m l:=by rw[N,j6 (jR (by omega)),wO]
   apply yk;apply ye;refine yC ?_;refine kQ ?_;refine kM (kL (k:=30) rfl) ?_;refine yl ?_ ?_;all_goals(first|exact zE hE|exact zE Z|exact j9 (λz=>blsA z) Z|exact j9 (AV.int .i64) hE.symm)
end
section
def zAQ(m:Mn)(h:Hb)(L:List (List Bt)):[msS m]=(ptS m h L 0).1/\[]=(ptS m h L 0).2.1/\[]=(ptS m h L 0).2.2:=⟨rfl,rfl,rfl⟩
def zhG{α:Sort _}(a:α):∃q,a=q:=⟨a,rfl⟩
attribute [local irreducible] Pur yy yz Ex X Fn Imp LeV LeB FnO It yH FnW FnOW FnP FnD
attribute [local irreducible] wcE wcnE wcnV blE blV ptS ptK paE paN paV nmQ bsB srV chV durB
end
section
section
variable{P:Program}{C:Ctx}{st:St}{ty:TypeId}
def ztX{fop:Operand}{args:Array Operand}{ts:Array TypeId}{f:FuncId}{caps xs az:List AV}{α:Type}{enc:α->List AV}{l:List α}{E s:Nat}{stF:St}(k:Nat)(hi:Imp C st stF)(h:FnOW P f az enc l E s λ_ _ _=>True)
 (Z:∀x,AV.flat.flatL (enc x)=true)(hf:ev stF fop=some (.fn f caps))(hx:evs stF args.toList=some xs)(V:LeL (xs++caps) az):
 yy P C (.call {callee:=.value fop,args:=args,argTypes:=ts}) ty st (.own k) (some (k,.row enc l E s)):=
 A_lendO (ι:=Unit) (stF:=λ_=>stF) (caps:=λ_=>caps) (xs:=λ_=>xs) (az:=λ_=>az) k (λg a w hr=>znj hi hr) (λ_=>h) Z (λ_=>hf) (λ_=>hx) (λ_=>V)
end
attribute [local irreducible] Pur yy yz Ex X Fn Imp LeV LeB FnO It yH FnW FnOW FnP FnD
attribute [local irreducible] wcE wcnE wcnV blE blV ptS ptK paE paN paV nmQ bsB srV chV durB
def ziU(l:List Bt)(hl:l.length<=4000000000):FnO prog 34 [btsA l] [] [] (.own 5) [(5,.row tmE (durB l) 61 2)]:=by
 have V:[]=durB (l.take 0):=by unfold durB;rfl
 refine bP (ts:=[(0,btsA l)]) (rv:=[.tmp 2]) (n:=19) (cs:=[]) (by kernel_rfl) func34 rfl ntmps34 rfl rfl (by simp) rfl rfl rfl rfl (λg w d vs=>?_);apply ye;refine ya ?_;apply yE;refine yj ?_;iterate 2 apply yh
 refine kT (yG tmE 61 2 3 30 rfl rfl) ?_;apply yf;refine yC ?_;apply kP;refine zm (λk=>[(6,btsA l),(7,iv (l.length:Int)),(8,iv (k:Int)),(3,.own 30)]) (λk=>[(kN,.hold vs []),(30,.row tmE (durB (l.take k)) 61 2)]) l.length (λk hk=>?_);refine gd ?_ ?_<;>intro U
 ·have Z:=@getX _ l k (by omega);obtain⟨b,T,N⟩:=Z;have J:=znW T;have H:(durB (l.take k)).length<=l.length:=by rw[zeJ,jO];omega
  refine gq ?_;refine yD tmE [b.Dur] ?_;refine gq ?_;refine yu (k+1) (hI:=yg)
 ·obtain rfl:k=l.length:=by omega
  have G:durB (l.take l.length)=durB l:=by rw[jK]
  apply bA;apply yh;refine kT (st':=⟨[(3,.own 30)],[(kN,.hold vs []),(30,.row tmE (durB l) 61 2)]⟩) yg ?_;refine kT (bN 30 5 rfl rfl) ?_;refine kT (st':=⟨[(3,.own 5)],[(kN,.hold vs []),(5,.row tmE (durB l) 61 2)]⟩) yg ?_;apply yf;refine yQ ?_;refine kQ ?_;refine zpx.mk (ts:=[(2,.own 5)]) (.inr rfl) (yd) (.one (.tmp rfl (kO rfl)))
def zbj(l:List Bt)(hl:l.length<=4000000):FnO prog 44 [btsA l] [] [] (.own 5) [(5,.row btE l 63 3)]:=by
 refine bP (ts:=[(0,btsA l)]) (rv:=[.tmp 2]) (n:=8) (cs:=[]) (by kernel_rfl) func44 rfl ntmps44 rfl rfl (by simp) rfl rfl rfl rfl (λg w d vs=>?_);apply ye;refine yj ?_;apply yh;apply ye;refine ya ?_;refine Ex.eqNil rfl sl29 rfl (λb U=>?_);refine gd ?_ ?_<;>intro Z
 ·have V:=U Z;subst V;subst Z;apply ye;refine yj ?_;refine kQ ?_;refine zpx.imp (yG btE 63 3 2 5 rfl rfl) ?_;refine zpx.mk (ts:=[(2,.own 5)]) (.inr rfl) (yd) (.one (.tmp rfl (kO rfl)))
 refine gq ?_;refine yD btE [] ?_;refine ya ?_;refine kV ?_;refine yj ?_;refine kQ ?_;refine zpx.mk (ts:=[(2,.own 5)]) (.inr rfl) (yd) (.one (.tmp rfl (kO rfl)))
set_option maxRecDepth 100000 in
def zly(s:ByteArray)(m:Mn)(l:List Bt)(h:Hb)(hs:s.size<=1000000)(hl:l.length<=1000000):Fn prog 14 [.str s,mnA m,btsA l,hbA h] (.tup [.agg [.str (paN s m l h),sgsA (paV s m l h)],iv (paE s m l h)]):=by
 have x2:=zeL m l hl;have x1:blE m l=0->(∀b∈blV m l,1<=b.length)/\(blV m l).flatten=l:=λe=>ziz e
 have k6:=zhG (blV m l);obtain⟨L,J⟩:=k6;rw[J]at x2 x1;refine kR func14 ntmps14 (λg w d=>?_);refine gc (zgz s hs) ?_;refine gd ?_ ?_<;>intro x0
 ·have hE:=zEm (m:=m) (l:=l) (h:=h) (s:=s) x0;have k5:=zpS (s:=s) (m:=m) (l:=l) (h:=h) (by rw[hE];decide);obtain⟨hN,Z⟩:=k5;apply ye;refine ya ?_;refine kV ?_;refine yj ?_;refine kQ ?_;refine kM (bL (ts:=[(8,.ptr 8 0 0 0),(9,iv 7)]) (hs:=[(8,.box [.str ⟨#[]⟩,sgsA []] 46)]) ⟨⟨_,rfl,kX _⟩,⟨_,rfl,kX _⟩,True.intro⟩ ⟨⟨_,rfl,bQ (.cons (kX _) (.cons (bB _) .nil))⟩,True.intro⟩) ?_;refine yx ty46 ?_ ?_;all_goals(first|(rw[hN,Z];done)|exact zE hE)
 have c0:nmQ (bsB s)=true:=x0;refine gc x2 ?_;refine gd ?_ ?_<;>intro w9
 ·have hE:=zEn (h:=h) c0 w9;have k4:=zpS (s:=s) (m:=m) (l:=l) (h:=h) (by rw[hE];exact w9);obtain⟨hN,Z⟩:=k4;apply ye;iterate 2 refine ya ?_
  refine kV ?_;refine yj ?_;refine kQ ?_;refine kM (bL (ts:=[(8,.ptr 8 0 0 0),(9,iv (blE m l))]) (hs:=[(8,.box [.str ⟨#[]⟩,sgsA []] 46)]) ⟨⟨_,rfl,kX _⟩,⟨_,rfl,kX _⟩,True.intro⟩ ⟨⟨_,rfl,bQ (.cons (kX _) (.cons (bB _) .nil))⟩,True.intro⟩) ?_;refine yx ty46 ?_ ?_;all_goals(first|(rw[hN,Z];done)|exact zE hE)
 have e0:blE m l=0:=by omega
 refine gd ?_ ?_<;>intro hQ
 ·have hE:=zEo (h:=h) c0 e0 (by omega);have k3:=zpS (s:=s) (m:=m) (l:=l) (h:=h) (by rw[hE];decide);obtain⟨hN,Z⟩:=k3;apply ye;refine ya ?_;refine kV ?_;refine yj ?_;refine kQ ?_;refine kM (bL (ts:=[(8,.ptr 8 0 0 0),(9,iv 11)]) (hs:=[(8,.box [.str ⟨#[]⟩,sgsA []] 46)]) ⟨⟨_,rfl,kX _⟩,⟨_,rfl,kX _⟩,True.intro⟩ ⟨⟨_,rfl,bQ (.cons (kX _) (.cons (bB _) .nil))⟩,True.intro⟩) ?_;refine yx ty46 ?_ ?_;all_goals(first|(rw[hN,Z];done)|exact zE hE)
 have H:l.length<=60:=by omega
 refine gq ?_;refine yD sgE [msS m] ?_;refine ya ?_;apply yE;refine ya ?_;apply yE;refine yj ?_;iterate 2 apply yh
 have V:=x1 e0;have j4:=zk0 V.1;rw[V.2]at j4;refine kT (st':=⟨[(0,.str s),(5,.ptr 5 0 0 0),(7,.ptr 7 0 0 0),(8,.ptr 8 0 0 0),(10,blsA L),(12,.ptr 12 0 0 0),(13,.own 43),(14,sgsA []),(15,.nils)],[(5,.box (mnE m) 27),(7,.box (hbE h) 24),(8,.box [.str ⟨#[]⟩,.nils] 46),(12,.box (sgE (msS m)) 76),(43,.row sgE [msS m] 76 17)]⟩) yg ?_;refine kT (yG btE 63 3 15 30 rfl rfl) ?_;have j3:=zAQ m h L;obtain⟨hP,hO,hM⟩:=j3;apply yf;refine yC ?_;apply kP;refine zW (λk=>[(0,.str s),(5,.ptr 5 0 0 0),(7,.ptr 7 0 0 0),(8,.ptr 8 0 0 0),(12,.ptr 12 0 0 0),(13,.own 43),(44,blsA L),(45,iv (L.length:Int)),(46,iv (k:Int)),(14,sgsA (ptS m h L k).2.1),(15,.own 30)]) (λk=>[(5,.box (mnE m) 27),(7,.box (hbE h) 24),(8,.box [.str ⟨#[]⟩,.nils] 46),(12,.box (sgE (msS m)) 76),(43,.row sgE ((ptS m h L k).1) 76 17),(30,.row btE ((ptS m h L k).2.2) 63 3)]) (λk=>k<=L.length/\PtJ m h L k) L.length (λk hk=>?_) (hJ:=by exact⟨wK _,zz6 _ _ _⟩);obtain⟨k1,k2⟩:=hk;refine gd ?_ ?_<;>intro hG
 ·have j2:=@getX _ L k (by omega);obtain⟨b,hb,hC⟩:=j2;have h9:=V.1 b (j8 hb);have q1:=k2.r;have q2:=k2.b;have q3:=k2.s;have q4:=zqs V.2 k;have q5:=zqs V.2 (k+1);rw[(zhU hb).2.2,jC]at q5;refine gc (zfJ m b h (by omega)) ?_;refine gd ?_ ?_<;>intro xT
  ·have U:=k2.err hb xT;rw[←J]at U;have hE:=zxg c0 e0 H U xT;have j1:=zpS (s:=s) (m:=m) (l:=l) (h:=h) (by rw[hE];exact xT);obtain⟨hN,Z⟩:=j1;apply ye;(iterate 2 refine ya ?_);refine kV ?_;refine yj ?_;refine kQ ?_;refine kM (bL (ts:=[(8,.ptr 8 0 0 0),(9,iv (wcnE m b h))]) (hs:=[(8,.box [.str ⟨#[]⟩,sgsA []] 46)]) ⟨⟨_,rfl,kX _⟩,⟨_,rfl,kX _⟩,True.intro⟩ ⟨⟨_,rfl,bQ (.cons (kX _) (.cons (bB _) .nil))⟩,True.intro⟩) ?_;refine yx ty46 ?_ ?_;all_goals(first|(rw[hN,Z];done)|exact zE hE)
  have w0:wcnE m b h=0:=by omega
  have G:=znX m b h;have E:=zig m b h;have w2:=zlY (m:=m) (D:=durB ((ptS m h L k).2.2++b)) (run:=(ptS m h L k).2.1) G (by rw[E];omega);have v9:=zlY (m:=m) (D:=durB b) (run:=[]) G (by rw[E];simp only[wQ];omega);refine gq ?_;refine yR (zd9 m b h (by omega)) ?_;refine ya ?_;apply yE;iterate 2 refine ya ?_
  refine kV ?_;refine yj ?_;apply yh;refine kT (st':=⟨[(0,.str s),(5,.ptr 5 0 0 0),(7,.ptr 7 0 0 0),(8,.ptr 8 0 0 0),(12,.ptr 12 0 0 0),(13,.own 43),(44,blsA L),(45,iv (L.length:Int)),(46,iv (k:Int)),(14,sgsA (ptS m h L k).2.1),(15,.own 30),(17,btsA b),(20,chsA (chV m b h))],[(5,.box (mnE m) 27),(7,.box (hbE h) 24),(8,.box [.str ⟨#[]⟩,.nils] 46),(12,.box (sgE (msS m)) 76),(43,.row sgE ((ptS m h L k).1) 76 17),(30,.row btE ((ptS m h L k).2.2++b) 63 3)]⟩) yg ?_;refine bI [⟨0,68,mnA m,[]⟩,⟨1,69,.own 30,[]⟩,⟨3,71,chsA (chV m b h),[]⟩,⟨4,72,sgsA (ptS m h L k).2.1,[]⟩] [(2,[1]),(5,[1,4,3,2,0]),(6,[4,3,2,1,0,5])] (λj=>match j with|0=>⟨[(0,.str s),(5,.ptr 5 0 0 0),(7,.ptr 7 0 0 0),(8,.ptr 8 0 0 0),(12,.ptr 12 0 0 0),(13,.own 43),(44,blsA L),(45,iv (L.length:Int)),(46,iv (k:Int)),(14,sgsA (ptS m h L k).2.1),(15,.own 30),(17,btsA b),(20,chsA (chV m b h))],[(5,.box (mnE m) 27),(7,.box (hbE h) 24),(8,.box [.str ⟨#[]⟩,.nils] 46),(12,.box (sgE (msS m)) 76),(43,.row sgE ((ptS m h L k).1) 76 17),(30,.row btE ((ptS m h L k).2.2++b) 63 3)]⟩|1=>⟨[(0,.str s),(5,.ptr 5 0 0 0),(7,.ptr 7 0 0 0),(8,.ptr 8 0 0 0),(12,.ptr 12 0 0 0),(13,.own 43),(44,blsA L),(45,iv (L.length:Int)),(46,iv (k:Int)),(14,sgsA (ptS m h L k).2.1),(15,.own 30),(17,btsA b),(20,chsA (chV m b h)),(70,tmsA (durB ((ptS m h L k).2.2++b)))],[(5,.box (mnE m) 27),(7,.box (hbE h) 24),(8,.box [.str ⟨#[]⟩,.nils] 46),(12,.box (sgE (msS m)) 76),(43,.row sgE ((ptS m h L k).1) 76 17),(30,.row btE ((ptS m h L k).2.2++b) 63 3)]⟩|2=>⟨[(0,.str s),(5,.ptr 5 0 0 0),(7,.ptr 7 0 0 0),(8,.ptr 8 0 0 0),(12,.ptr 12 0 0 0),(13,.own 43),(44,blsA L),(45,iv (L.length:Int)),(46,iv (k:Int)),(14,sgsA (ptS m h L k).2.1),(15,.own 30),(17,btsA b),(20,chsA (chV m b h)),(73,nlA sgE (srV m (durB ((ptS m h L k).2.2++b)) (chV m b h) (ptS m h L k).2.1))],[(5,.box (mnE m) 27),(7,.box (hbE h) 24),(8,.box [.str ⟨#[]⟩,.nils] 46),(12,.box (sgE (msS m)) 76),(43,.row sgE ((ptS m h L k).1) 76 17),(30,.row btE ((ptS m h L k).2.2++b) 63 3)]⟩|_=>⟨[(0,.str s),(5,.ptr 5 0 0 0),(7,.ptr 7 0 0 0),(8,.ptr 8 0 0 0),(12,.ptr 12 0 0 0),(13,.own 43),(44,blsA L),(45,iv (L.length:Int)),(46,iv (k:Int)),(14,sgsA (ptS m h L k).2.1),(15,.own 30),(17,btsA b),(20,chsA (chV m b h)),(21,nlA sgE (srV m (durB ((ptS m h L k).2.2++b)) (chV m b h) (ptS m h L k).2.1))],[(5,.box (mnE m) 27),(7,.box (hbE h) 24),(8,.box [.str ⟨#[]⟩,.nils] 46),(12,.box (sgE (msS m)) 76),(43,.row sgE ((ptS m h L k).1) 76 17),(30,.row btE ((ptS m h L k).2.2++b) 63 3)]⟩) mo (by kernel_rfl) (zj (yd)) (λj hj=>?_) (λj c hc β hβ=>?_) ?_
  ·rcases j with _|_|_|_|j
   ·exact yF
   ·exact yF
   ·exact yF
   ·exact yF
   ·exact absurd (show j+4<=3 from hj) (by omega)
  ·rcases j with _|_|_|j
   ·obtain rfl:(2,[1])=c:=by injection hc
    refine yp rfl (yn (st0:=⟨[(68,.ifb (β 0) (mnA m)),(69,.own 30),(71,.ifb (β 3) (chsA (chV m b h))),(72,.ifb (β 4) (sgsA (ptS m h L k).2.1)),(0,.str s),(5,.ptr 5 0 0 0),(7,.ptr 7 0 0 0),(8,.ptr 8 0 0 0),(12,.ptr 12 0 0 0),(13,.own 43),(44,blsA L),(45,iv (L.length:Int)),(46,iv (k:Int)),(14,sgsA (ptS m h L k).2.1),(15,.own 30),(17,btsA b),(20,chsA (chV m b h))],[(5,.box (mnE m) 27),(7,.box (hbE h) 24),(8,.box [.str ⟨#[]⟩,.nils] 46),(12,.box (sgE (msS m)) 76),(43,.row sgE ((ptS m h L k).1) 76 17),(30,.row btE ((ptS m h L k).2.2++b) 63 3)]⟩) (ym) ?_);refine yz.imp (yz.imp (yL (ztX 70 (kL (k:=30) rfl) (ziU ((ptS m h L k).2.2++b) (by rw[jC];omega)).ow (λ_=>rfl) rfl rfl (bC _)) rfl rfl) (kL (k:=70) rfl)) (ym)
   ·obtain rfl:(5,[1,4,3,2,0])=c:=by injection hc
    refine yp rfl (yn (st0:=⟨[(68,mnA m),(69,.own 30),(71,chsA (chV m b h)),(72,sgsA (ptS m h L k).2.1),(0,.str s),(5,.ptr 5 0 0 0),(7,.ptr 7 0 0 0),(8,.ptr 8 0 0 0),(12,.ptr 12 0 0 0),(13,.own 43),(44,blsA L),(45,iv (L.length:Int)),(46,iv (k:Int)),(14,sgsA (ptS m h L k).2.1),(15,.own 30),(17,btsA b),(20,chsA (chV m b h)),(70,tmsA (durB ((ptS m h L k).2.2++b)))],[(5,.box (mnE m) 27),(7,.box (hbE h) 24),(8,.box [.str ⟨#[]⟩,.nils] 46),(12,.box (sgE (msS m)) 76),(43,.row sgE ((ptS m h L k).1) 76 17),(30,.row btE ((ptS m h L k).2.2++b) 63 3)]⟩) (ym) ?_);refine yz.imp (yL (z7 rfl rfl rfl (bC _) (zcW m (durB ((ptS m h L k).2.2++b)) _ (chV m b h) (ptS m h L k).2.1 rfl G (by rw[E];omega))) rfl rfl) (ym)
   ·obtain rfl:(6,[4,3,2,1,0,5])=c:=by injection hc
    refine yp rfl (yn (st0:=⟨[(68,mnA m),(69,.own 30),(71,chsA (chV m b h)),(72,sgsA (ptS m h L k).2.1),(0,.str s),(5,.ptr 5 0 0 0),(7,.ptr 7 0 0 0),(8,.ptr 8 0 0 0),(12,.ptr 12 0 0 0),(13,.own 43),(44,blsA L),(45,iv (L.length:Int)),(46,iv (k:Int)),(14,sgsA (ptS m h L k).2.1),(15,.own 30),(17,btsA b),(20,chsA (chV m b h)),(73,nlA sgE (srV m (durB ((ptS m h L k).2.2++b)) (chV m b h) (ptS m h L k).2.1))],[(5,.box (mnE m) 27),(7,.box (hbE h) 24),(8,.box [.str ⟨#[]⟩,.nils] 46),(12,.box (sgE (msS m)) 76),(43,.row sgE ((ptS m h L k).1) 76 17),(30,.row btE ((ptS m h L k).2.2++b) 63 3)]⟩) (ym) ?_);refine yz.imp (yL (kK yK) rfl rfl) (ym)
   ·exact absurd hc (by simp)
  iterate 2 apply yh
  refine kT (st':=⟨[(0,.str s),(5,.ptr 5 0 0 0),(7,.ptr 7 0 0 0),(8,.ptr 8 0 0 0),(12,.ptr 12 0 0 0),(13,.own 43),(44,blsA L),(45,iv (L.length:Int)),(46,iv (k:Int)),(14,sgsA (ptS m h L k).2.1),(15,.own 30),(17,btsA b),(20,chsA (chV m b h)),(21,nlA sgE (srV m (durB ((ptS m h L k).2.2++b)) (chV m b h) (ptS m h L k).2.1))],[(5,.box (mnE m) 27),(7,.box (hbE h) 24),(8,.box [.str ⟨#[]⟩,.nils] 46),(12,.box (sgE (msS m)) 76),(43,.row sgE ((ptS m h L k).1) 76 17),(30,.row btE ((ptS m h L k).2.2++b) 63 3)]⟩) yg ?_;apply yf;refine ya ?_;refine zo (zrC Tryz.underlying35 rfl w2) rfl ?_;refine gd ?_ ?_<;>intro v8
  ·have hn:srV m (durB ((ptS m h L k).2.2++b)) (chV m b h) (ptS m h L k).2.1=none:=by simpa using v8
   apply yh;refine kT (st':=⟨[(0,.str s),(5,.ptr 5 0 0 0),(7,.ptr 7 0 0 0),(8,.ptr 8 0 0 0),(12,.ptr 12 0 0 0),(13,.own 43),(44,blsA L),(45,iv (L.length:Int)),(46,iv (k:Int)),(14,sgsA (ptS m h L k).2.1),(15,.own 30),(17,btsA b),(20,chsA (chV m b h))],[(5,.box (mnE m) 27),(7,.box (hbE h) 24),(8,.box [.str ⟨#[]⟩,.nils] 46),(12,.box (sgE (msS m)) 76),(43,.row sgE ((ptS m h L k).1) 76 17),(30,.row btE ((ptS m h L k).2.2++b) 63 3)]⟩) yg ?_;refine gq ?_;refine yD sgE [msS m] ?_;refine gq ?_;refine zZ [(5,81)] (zbj b (by omega)) ?_;refine yQ ?_;apply yh;refine kT (st':=⟨[(0,.str s),(5,.ptr 5 0 0 0),(7,.ptr 7 0 0 0),(8,.ptr 8 0 0 0),(12,.ptr 12 0 0 0),(13,.own 43),(44,blsA L),(45,iv (L.length:Int)),(46,iv (k:Int)),(14,sgsA []),(15,.own 81),(17,btsA b),(20,chsA (chV m b h))],[(5,.box (mnE m) 27),(7,.box (hbE h) 24),(8,.box [.str ⟨#[]⟩,.nils] 46),(12,.box (sgE (msS m)) 76),(43,.row sgE ((ptS m h L k).1++[msS m]) 76 17),(81,.row btE b 63 3)]⟩) yg ?_;refine kT (bN 81 30 rfl rfl) ?_;refine kT (st':=⟨[(0,.str s),(5,.ptr 5 0 0 0),(7,.ptr 7 0 0 0),(8,.ptr 8 0 0 0),(12,.ptr 12 0 0 0),(13,.own 43),(44,blsA L),(45,iv (L.length:Int)),(46,iv (k:Int)),(14,sgsA []),(15,.own 30),(17,btsA b),(20,chsA (chV m b h))],[(5,.box (mnE m) 27),(7,.box (hbE h) 24),(8,.box [.str ⟨#[]⟩,.nils] 46),(12,.box (sgE (msS m)) 76),(43,.row sgE ((ptS m h L k).1++[msS m]) 76 17),(30,.row btE (b) 63 3)]⟩) yg ?_;refine yW [21,82,83,84,85,86] [0,0,2,0,15,31] mo ?_;(iterate 2 refine yb ?_);refine yO (zd3 b (by omega)) ?_;refine yb ?_;refine ChM.step rfl rfl rfl (z7 rfl rfl rfl (.cons (kX _) (.cons (kX _) (.cons (kX _) (.cons (bB _) .nil)))) (zcW m (durB b) _ (chV m b h) [] rfl G (by rw[E];simp only[wQ];omega))) rfl ?_;refine yb ?_;refine yI ?_;apply yE;refine ya ?_;refine zo (zrC Tryz.underlying35 rfl v9) rfl ?_;refine gd ?_ ?_<;>intro v5
   ·have j0:srV m (durB b) (chV m b h) []=none:=by simpa using v5
    have U:=k2.no hb w0 hn j0;rw[←J]at U;have hE:=zxg c0 e0 H U (by decide);have hZ:=zpS (s:=s) (m:=m) (l:=l) (h:=h) (by rw[hE];decide);obtain⟨hN,Z⟩:=hZ;apply ye;refine ya ?_;refine kV ?_;refine yj ?_;refine kQ ?_;refine kM (bL (ts:=[(8,.ptr 8 0 0 0),(9,iv 18)]) (hs:=[(8,.box [.str ⟨#[]⟩,sgsA []] 46)]) ⟨⟨_,rfl,kX _⟩,⟨_,rfl,kX _⟩,True.intro⟩ ⟨⟨_,rfl,bQ (.cons (kX _) (.cons (bB _) .nil))⟩,True.intro⟩) ?_;refine yx ty46 ?_ ?_;all_goals(first|(rw[hN,Z];done)|exact zE hE)
   have hY:=wY.1 (show(srV m (durB b) (chV m b h) []).isSome=true by simpa using v5);obtain⟨x,hx⟩:=hY;have hX:nlA sgE (srV m (durB b) (chV m b h) [])=sgsA x:=by rw[hx];rfl
   have x4:=k2.s2 hb w0 hn hx;have hS:=zv0 hb hn hx;have v4:=zhe hx;rw[wQ]at v4;have hW:=zhG (([]:List Sg));obtain⟨R1,T⟩:=hW;have v3:=zhG ((ptS m h L k).1++[msS m]);obtain⟨S1,N⟩:=v3;have v2:=zhG (b);obtain⟨B1,x3⟩:=v2;have v1:S1++x.drop ((R1.length:Nat):Int).toNat=(ptS m h L (k+1)).1:=by rw[hS,←T,←N];rfl
   have v0:x=(ptS m h L (k+1)).2.1:=by rw[hS]
   have u4:B1=(ptS m h L (k+1)).2.2:=by rw[hS,←x3]
   have hU:R1.length=0:=by rw[←T];rfl
   have hT:S1.length=(ptS m h L k).1.length+1:=by rw[←N,jC];rfl
   apply yk;apply yh;refine kT (st':=⟨[(0,.str s),(5,.ptr 5 0 0 0),(7,.ptr 7 0 0 0),(8,.ptr 8 0 0 0),(12,.ptr 12 0 0 0),(13,.own 43),(44,blsA L),(45,iv (L.length:Int)),(46,iv (k:Int)),(14,sgsA R1),(15,.own 30),(21,sgsA x)],[(5,.box (mnE m) 27),(7,.box (hbE h) 24),(8,.box [.str ⟨#[]⟩,.nils] 46),(12,.box (sgE (msS m)) 76),(43,.row sgE (S1) 76 17),(30,.row btE (B1) 63 3)]⟩) yg ?_;refine gq ?_
   first
    |refine zo (zx rfl rfl rfl sl35 ty76 (by omega) (by omega)) rfl ?_
    |refine zo (zY rfl rfl sl35 ty76 (λ_=>rfl) (by omega) (by omega)) rfl ?_
   refine zas (zL (l:=S1) (l2:=x.drop ((R1.length:Nat):Int).toNat) rfl rfl rfl SlK.h TiK.h (by decide) (by decide) (λ_=>rfl) (λ_=>rfl) (by rw[u7];omega) rfl) ?_;refine yj ?_;apply yf;refine yQ ?_;refine kT (st':=⟨[(0,.str s),(5,.ptr 5 0 0 0),(7,.ptr 7 0 0 0),(8,.ptr 8 0 0 0),(12,.ptr 12 0 0 0),(13,.own 43),(44,blsA L),(45,iv (L.length:Int)),(46,iv (k:Int)),(14,sgsA x),(15,.own 30)],[(5,.box (mnE m) 27),(7,.box (hbE h) 24),(8,.box [.str ⟨#[]⟩,.nils] 46),(12,.box (sgE (msS m)) 76),(43,.row sgE (S1++x.drop ((R1.length:Nat):Int).toNat) 76 17),(30,.row btE (B1) 63 3)]⟩) yg ?_;refine gq ?_;refine yu (k+1) (hJ:=by exact⟨by omega,x4⟩) (hI:=yg)
  ·have u3:=wY.1 (show(srV m (durB ((ptS m h L k).2.2++b)) (chV m b h) (ptS m h L k).2.1).isSome=true by simpa using v8);obtain⟨x,hx⟩:=u3;have hX:nlA sgE (srV m (durB ((ptS m h L k).2.2++b)) (chV m b h) (ptS m h L k).2.1)=sgsA x:=by rw[hx];rfl
   have x4:=k2.s1 hb w0 hx;have hS:=zvZ hb hx;have v4:=zhe hx;have u2:=zhG ((ptS m h L k).2.1);obtain⟨R1,T⟩:=u2;have u1:=zhG ((ptS m h L k).1);obtain⟨S1,N⟩:=u1;have k9:=zhG ((ptS m h L k).2.2++b);obtain⟨B1,x3⟩:=k9;have v1:S1++x.drop ((R1.length:Nat):Int).toNat=(ptS m h L (k+1)).1:=by rw[hS,←T,←N,wN]
   have v0:x=(ptS m h L (k+1)).2.1:=by rw[hS]
   have u4:B1=(ptS m h L (k+1)).2.2:=by rw[hS,←x3]
   have hU:R1.length=(ptS m h L k).2.1.length:=by rw[T]
   have hT:S1.length=(ptS m h L k).1.length:=by rw[N]
   apply yk;apply yh;refine kT (st':=⟨[(0,.str s),(5,.ptr 5 0 0 0),(7,.ptr 7 0 0 0),(8,.ptr 8 0 0 0),(12,.ptr 12 0 0 0),(13,.own 43),(44,blsA L),(45,iv (L.length:Int)),(46,iv (k:Int)),(14,sgsA R1),(15,.own 30),(21,sgsA x)],[(5,.box (mnE m) 27),(7,.box (hbE h) 24),(8,.box [.str ⟨#[]⟩,.nils] 46),(12,.box (sgE (msS m)) 76),(43,.row sgE (S1) 76 17),(30,.row btE (B1) 63 3)]⟩) yg ?_;refine gq ?_
   first
    |refine zo (zx rfl rfl rfl sl35 ty76 (by omega) (by omega)) rfl ?_
    |refine zo (zY rfl rfl sl35 ty76 (λ_=>rfl) (by omega) (by omega)) rfl ?_
   refine zas (zL (l:=S1) (l2:=x.drop ((R1.length:Nat):Int).toNat) rfl rfl rfl SlK.h TiK.h (by decide) (by decide) (λ_=>rfl) (λ_=>rfl) (by rw[u7];omega) rfl) ?_;refine yj ?_;apply yf;refine yQ ?_;refine kT (st':=⟨[(0,.str s),(5,.ptr 5 0 0 0),(7,.ptr 7 0 0 0),(8,.ptr 8 0 0 0),(12,.ptr 12 0 0 0),(13,.own 43),(44,blsA L),(45,iv (L.length:Int)),(46,iv (k:Int)),(14,sgsA x),(15,.own 30)],[(5,.box (mnE m) 27),(7,.box (hbE h) 24),(8,.box [.str ⟨#[]⟩,.nils] 46),(12,.box (sgE (msS m)) 76),(43,.row sgE (S1++x.drop ((R1.length:Nat):Int).toNat) 76 17),(30,.row btE (B1) 63 3)]⟩) yg ?_;refine gq ?_;refine yu (k+1) (hJ:=by exact⟨by omega,x4⟩) (hI:=yg)
 ·obtain rfl:k=L.length:=by omega
  have U:=k2.fin;rw[←J]at U;refine gd ?_ ?_<;>intro h8
  ·rw[J]at U;rw[←J]at U;have hE:=zEp c0 e0 H U (by rw[J];omega);have k8:=zpS (s:=s) (m:=m) (l:=l) (h:=h) (by rw[hE];decide);obtain⟨hN,Z⟩:=k8;apply ye;refine ya ?_;refine kV ?_;refine yj ?_;refine kQ ?_;refine kM (bL (ts:=[(8,.ptr 8 0 0 0),(9,iv 11)]) (hs:=[(8,.box [.str ⟨#[]⟩,sgsA []] 46)]) ⟨⟨_,rfl,kX _⟩,⟨_,rfl,kX _⟩,True.intro⟩ ⟨⟨_,rfl,bQ (.cons (kX _) (.cons (bB _) .nil))⟩,True.intro⟩) ?_;refine yx ty46 ?_ ?_;all_goals(first|(rw[hN,Z];done)|exact zE hE)
  have k7:=zz7 c0 e0 H U (by rw[J];omega);obtain⟨hE,hN,Z⟩:=k7;rw[J]at Z;apply yk;apply yh;refine kT (st':=⟨[(0,.str s),(8,.ptr 8 0 0 0),(13,sgsA (ptS m h L L.length).1)],[(8,.box [.str ⟨#[]⟩,.nils] 46)]⟩) ((kL (k:=43) rfl).trans yd) ?_;refine gq ?_;refine yx ty46 ?_ ?_;all_goals(first|(rw[hN,Z];done)|exact zE hE|(rw[hN,Z];rfl))
end
end Go.Rse
