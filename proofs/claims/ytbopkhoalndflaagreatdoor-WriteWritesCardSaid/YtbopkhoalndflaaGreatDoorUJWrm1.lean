/-
  Plain.
-/
import Derived.Test.YtbopkhoalndflaaGreatDoorUJLaw24a
set_option linter.all false
namespace Go.Rse
open Go Go.Proofs Go.Proofs.Tryz
section
def pdL:List (List (List Sg))->Nat
 |[]=>1
 |f::r=>f.length*pdL r
def dgF:List (List (List Sg))->Nat->List Nat
 |[],_=>[]
 |f::r,i=>i/pdL r%f.length::dgF r i
def rnD:List (List (List Sg))->Nat->List Sg
 |[],_=>[]
 |f::r,i=>f.getD (i/pdL r%f.length) []++rnD r i
def zoV:∀(F:List (List (List Sg)))(i:Nat),(dgF F i).length=F.length
 |[],i=>rfl
 |f::r,i=>j6 Nat.succ (zoV r i)
def ziw:∀(F:List (List (List Sg)))(i:Nat),rnD F (i%pdL F)=rnD F i
 |[],i=>rfl
 |f::r,i=>by
  have e1:i%(f.length*pdL r)/pdL r=i/pdL r%f.length:=by rw[wM];exact Nat.mod_mul_right_div_self i (pdL r) f.length
  have e2:rnD r (i%(f.length*pdL r))=rnD r i:=by
   rw[←ziw r (i%(f.length*pdL r)),wM f.length,Nat.mod_mul_right_mod,ziw r i]
  simp_all[pdL,rnD]
def znF:∀(F:List (List (List Sg)))(r:List Sg),wuL F r=(wuL F []).map (r++ ·)
 |[],r=>by simp[wuL]
 |f::F,r=>by
  show f.flatMap (λx=>wuL F (r++x))=(f.flatMap λx=>wuL F ([]++x)).map (r++ ·);rw[List.map_flatMap];congr 1;funext x;rw[znF F (r++x),znF F ([]++x),List.map_map];simp_all
def zkF(c:Nat):∀a,List.range (a*c)=(List.range a).flatMap λq=>(List.range c).map λj=>q*c+j
 |0=>by simp
 |a+1=>by
  rw[uZ,List.range_add,zkF c a,vF,uH];simp
def zmI{α β:Type}(d:α)(g:α->List β):∀f:List α,f.flatMap g=(List.range f.length).flatMap λq=>g (f.getD q d)
 |[]=>rfl
 |x::f=>by
  rw[jY,List.range_succ_eq_map,wV,wV,List.flatMap_map,zmI d g f];rfl
def zru:∀(F:List (List (List Sg))),wuL F []=(List.range (pdL F)).map (rnD F)
 |[]=>rfl
 |f::F=>by
  show f.flatMap (λx=>wuL F ([]++x))=(List.range (f.length*pdL F)).map (rnD (f::F));rw[zkF,List.map_flatMap,zmI [] (λx=>wuL F ([]++x)) f]
  have key:∀q,q<f.length->wuL F ([]++f.getD q [])=((List.range (pdL F)).map λj=>q*pdL F+j).map (rnD (f::F)):=λq V=>by
   rw[znF,zru F,List.map_map,List.map_map];refine uX λj Z=>?_
   have Z:=wY.1 Z;have U:(q*pdL F+j)/pdL F=q:=by rw[wM,Nat.mul_add_div (by omega)];rw[Nat.div_eq_of_lt Z];rfl
   show f.getD q []++rnD F j=f.getD ((q*pdL F+j)/pdL F%f.length) []++rnD F (q*pdL F+j);rw[U,Nat.mod_eq_of_lt V,←ziw F (q*pdL F+j),wM,Nat.mul_add_mod,ziw]
  have:∀(L:List Nat),(∀q∈L,q<f.length)->L.flatMap (λq=>wuL F ([]++f.getD q []))=L.flatMap λq=>((List.range (pdL F)).map λj=>q*pdL F+j).map (rnD (f::F)):=by
   intro L
   induction L with
   |nil=>intro _;rfl
   |cons q L ih=>intro h;rw[wV,wV,key q (h q (by simp)),ih λx hx=>h x (wQ _ hx)]
  simp_all
def zzT{F:List (List (List Sg))}{k:Nat}{f:List (List Sg)}(h:F[k]? =some f):pdL (F.drop k)=f.length*pdL (F.drop (k+1)):=by
 grind[List.drop_eq_getElem_cons,pdL]
def zvt{F:List (List (List Sg))}{k:Nat}{f:List (List Sg)}(h:F[k]? =some f)(i:Nat):dgF (F.drop k) i=i/pdL (F.drop (k+1))%f.length::dgF (F.drop (k+1)) i:=by
 grind[List.drop_eq_getElem_cons,dgF]
theorem zzU{F:List (List (List Sg))}{k:Nat}{f:List (List Sg)}(h:F[k]? =some f)(i:Nat):rnD (F.drop k) i=f.getD (i/pdL (F.drop (k+1))%f.length) []++rnD (F.drop (k+1)) i:=by
 grind[List.drop_eq_getElem_cons,rnD]
def zxf{F:List (List (List Sg))}{k:Nat}{f:List (List Sg)}(h:F[k]? =some f)(i:Nat):(dgF F i)[k]? =some (i/pdL (F.drop (k+1))%f.length):=by
 have key:∀(F:List (List (List Sg)))(k:Nat),(dgF F i).drop k=dgF (F.drop k) i:=by
  intro F
  induction F with
  |nil=>intro k;cases k<;>rfl
  |cons g F ih=>intro k;cases k<;>grind[dgF]
 have Z:=j6 (·[0]?) (key F k);simp only[w7,uG]at Z;rw[Z,zvt h];rfl
def ztx{F:List (List (List Sg))}{i:Nat}(h:i<pdL F):∀f∈F,0<f.length:=by
 induction F generalizing i with
 |nil=>simp
 |cons g F ih=>
  intro f hf;have h0:0<g.length*pdL F:=by unfold pdL at h;omega
  rcases w6.1 hf with rfl|hf
  ·grind
  ·exact ih (i:=0) (Nat.pos_of_mul_pos_left h0) f hf
def zrv(m:Mn)(h:Hb):∀l:List Bt,pdL (chV m l h)=cnP m h l
 |[]=>rfl
 |b::l=>j6 (_* ·) (zrv m h l)
def zzV{m:Mn}{l:List Bt}{h:Hb}{y:List Sg}(V:wcE m l=0)(Z:y∈wuL (fmL m l h) []):(decide (wisE m l y=0)&&wisB m l y)=reQ m y (durB l):=by
 have U:=(znk m h l [] y Z).1
 grind[ztu,rsL,ztt,reQ,rdE]
def rnQ(F:List (List (List Sg)))(i:Nat):Nat->List Sg
 |0=>[]
 |k+1=>rnQ F i k++(F.getD k []).getD (i/pdL (F.drop (k+1))%(F.getD k []).length) []
def zvu{F:List (List (List Sg))}{i:Nat}:∀k,k<=F.length->rnQ F i k++rnD (F.drop k) i=rnD F i
 |0,_=>rfl
 |k+1,h=>by
  have Z:F[k]? =some (F.getD k []):=by rw[j8,lgg (by omega)];rfl
  have:=zvu (F:=F) (i:=i) k (by omega)
  grind[zzU,rnQ]
def acV(m:Mn)(D:List Tm)(F:List (List (List Sg)))(i:Nat):List (List Sg):=((List.range i).map (rnD F)).filter λx=>reQ m x D
def zvv(m:Mn)(D:List Tm)(F:List (List (List Sg)))(i:Nat):acV m D F (i+1)=acV m D F i++(if reQ m (rnD F i) D=true then[rnD F i]else[]):=by
 grind[acV,List.range_succ]
def zzW{m:Mn}{l:List Bt}{h:Hb}(Z:wcE m l=0):acV m (durB l) (chV m l h) (pdL (chV m l h))=wyL m l h:=by
 unfold acV wyL;rw[zuV Z,←zru]
def zxg{F:List (List (List Sg))}{i:Nat}(h:i<pdL F):rnD F i∈wuL F []:=by
 simp_all[zru,List.mem_map_of_mem]
end
section
def iI(x:Nat):Int:=(x:Int)
def whK(F:List (List (List Sg)))(i n:Nat):List Int:=List.replicate n 0++(dgF (F.drop n) i).map iI
def zoW{F:List (List (List Sg))}{i n:Nat}(h:n<=F.length):(whK F i n).length=F.length:=by
 unfold whK;rw[jI,uL,jO,zoV,u6];omega
def zzX{F:List (List (List Sg))}{i n:Nat}{f:List (List Sg)}(h:F[n]? =some f):(whK F i (n+1)).set n ((i/pdL (F.drop (n+1)):Nat)%(f.length:Int):Int)=whK F i n:=by
 unfold whK;rw[zvt h,u5,List.replicate_succ',uV,vR _ _ (by rw[uL];exact jE _),uL,xV];show List.replicate n 0++(((i/pdL (F.drop (n+1)):Nat)%(f.length:Int):Int)::_)=_;congr 2
def zxh{F:List (List (List Sg))}{i k:Nat}{f:List (List Sg)}(h:F[k]? =some f):(whK F i 0)[k]? =some ((i/pdL (F.drop (k+1))%f.length:Nat):Int):=by
 unfold whK;rw[List.replicate_zero,xE,List.drop_zero,jJ,zxf h];rfl
def ldQ{F:List (List (List Sg))}{i n:Nat}{f:List (List Sg)}(h:F[n]? =some f):((i/pdL (F.drop (n+1)):Nat):Int)/(f.length:Int)=((i/pdL (F.drop n):Nat):Int):=by
 rw[zzT h,wM,←Nat.div_div_eq_div_mul];rfl
def zzY{F:List (List (List Sg))}{i k:Nat}{f:List (List Sg)}{s:List Sg}(h:F[k]? =some f)(hs:f[i/pdL (F.drop (k+1))%f.length]? =some s):rnQ F i k++s=rnQ F i (k+1):=by
 have e:F.getD k []=f:=by rw[j8,h];rfl
 rw[rnQ,e,j8,hs];rfl
def zlH{F:List (List (List Sg))}(Z:∀f∈F,∀s∈f,s.length<=2)(i:Nat):∀k,(rnQ F i k).length<=2*k
 |0=>jE _
 |k+1=>by
  have Q:=zlH Z i k;rw[rnQ,jI]
  have:((F.getD k []).getD (i/pdL (F.drop (k+1))%(F.getD k []).length) []).length<=2:=by
   generalize i/pdL (F.drop (k+1))%(F.getD k []).length=q
   have V:∀s∈F.getD k [],s.length<=2:=by
    rw[j8];cases U:F[k]? with
    |none=>intro s hs;simp at hs
    |some f=>exact Z f (j5 U)
   generalize F.getD k []=f at V;rw[j8];cases T:f[q]? with
   |none=>simp
   |some s=>exact V s (j5 T)
  omega
def zxi(m:Mn)(D:List Tm)(F:List (List (List Sg)))(i:Nat):(acV m D F i).length<=i:=by
 unfold acV;refine jR (wF _ _) ?_;rw[jO,List.length_range];exact jE _
attribute [local irreducible] Pur yA yC Ex X Fn Imp LeV LeB FnO It yH FnW FnOW FnP FnD
attribute [local irreducible] wcE wcnE wcnV frV chV wisE wisB whK rnQ acV pdL durB
set_option maxHeartbeats 8000000 in
set_option maxRecDepth 100000 in
def zbR(m:Mn)(l:List Bt)(h:Hb)(hl:l.length<=4000000000):Fn prog 34 [mnA m,btsA l,hbA h] (.tup [zp (wlV m l h),iv (wcnE m l h)]):=by
 have u3:[]=chV m (l.take 0) h:=by unfold chV;rfl
 refine kC func34 ntmps34 (λg w d=>?_);refine gc (zO m l h (by omega)) ?_;refine gd ?_ ?_<;>intro Z
 ·have I:wlV m l h=[]:=by unfold wlV;rw[j3 Z]
  apply ye;refine yq ?_;refine kE ?_;refine k8 (yd (ts:=[(6,zp []),(7,iv (wcnE m l h))]) (hs:=[])) ?_;refine yh ?_ ?_;all_goals(first|exact zE I|exact j6 (λz=>zp z) (hE.trans I.symm)|rfl|exact zE Z)
 have J:wcE m l=0:=by apply jZ;intro hn;have:=(zjs (h:=h) hn).1;rw[this]at Z;exact hn Z
 have x3:=zha Z;have I:wlV m l h=wyL m l h:=by unfold wlV;rw[j4 Z]
 have hn:wcnV m l h=(cnP m h l:Int):=by unfold wcnV;rw[j4 Z]
 have x2:=zqi (m:=m) (h:=h) x3 l.length;rw[j9]at x2;rw[hn];have x1:cnP m h l<=4096:=by apply jZ;intro hq;have:=(zmH (h:=h) J (by omega) (by omega)).1;rw[this]at Z;cases Z
 apply yl;apply ye;refine yi ?_;iterate 2 apply yf
 refine kJ (yE zb7 56 1 10 30 rfl rfl) ?_;apply yj;refine yi ?_;apply kA;refine ze (λk=>[(1,btsA l),(3,.ptr 3 0 0 0),(5,.ptr 5 0 0 0),(7,iv 0),(8,iv (cnP m h l:Int)),(10,.own 30),(11,iv (k:Int))]) (λk=>[(3,.box (mnE m) 23),(5,.box (hbE h) 32),(30,.row zb7 (chV m (l.take k) h) 56 1)]) l.length (λk hk=>?_);refine gd ?_ ?_<;>intro u2
 ·obtain⟨b,hb⟩:∃b,l[k]? =some b:=⟨_,lgg (by omega)⟩;have u1:l[(k:Int).toNat]? =some b:=by simpa using hb
  have hs:=zrm (m:=m) (h:=h) hb;have k5:(chV m (l.take k) h).length<=1000000:=by rw[zei,jL];omega
  have x0:Fn prog 75 [mnA m,btA b,hbA h] (.tup [zp (frV m b h),iv 0]):=by have q:=za9 m b h;rw[zlc J (j5 hb),show fmV m b h=frV m b h by unfold fmV;rw[j4 (zlc J (j5 hb))]]at q;exact q
  refine gq ?_;refine yQ [12,13,39,40,41,42,43,44,45,46,47,48] [0,0,0,6,14,0,63,127,255,255,511,2047] mo ?_;iterate 6 refine yb ?_
  refine yI x0 ?_;iterate 5 refine yb ?_
  refine yx ?_;refine gq ?_;refine yz zb7 [frV m b h] ?_;refine gq ?_;refine yo (k+1) (hI:=yg)
 ·obtain rfl:k=l.length:=by omega
  apply kK;apply yf;refine kJ (k9 (k:=30) rfl) ?_;rw[j9];have w2:=zrv m h l;have V:=zei m l h;have T:∀f∈chV m l h,∀s∈f,s.length<=2:=λf hf s hs=>(zmg f hf s hs).2
  have hE:=zzW (h:=h) J;have v9:∀i,i<pdL (chV m l h)->rnD (chV m l h) i∈wuL (fmL m l h) []:=λi hi=>by rw[zuV J];exact zxg hi
  rw[←w2];generalize chV m l h=F at*
  apply yj;refine yi ?_;iterate 2 apply yf
  have k4:[]=acV m (durB l) F 0:=by unfold acV;rfl
  refine kJ (yE sgsE 33 1 14 31 rfl rfl) ?_;apply yj;refine yi ?_;apply kA;refine ze (λi=>[(1,btsA l),(3,.ptr 3 0 0 0),(7,iv 0),(8,iv (pdL F:Int)),(10,chsA F),(14,.own 31),(15,iv (i:Int))]) (λi=>[(3,.box (mnE m) 23),(31,.row sgsE (acV m (durB l) F i) 33 1)]) (pdL F) (λi hk=>?_);refine gd ?_ ?_<;>intro k3
  ·have H:i<pdL F:=by omega
   have U:=ztx H;refine gq ?_;refine kS (zmW (k:=61) (enc:=intE) 0 sl46 ti3 rfl (by decide) rfl rfl rfl rfl (by omega) (λ_=>rfl) hzS) rfl rfl ?_;refine yi ?_;apply yf;apply ye;refine ya ?_;refine yq ?_;apply kA;have j2:((i:Nat):Int)=((i/pdL (F.drop l.length):Nat):Int):=by rw[←V,wO];unfold pdL;rw[Nat.div_one]
   have v8:List.replicate (l.length:Int).toNat (0:Int)=whK F i l.length:=by unfold whK;rw[←V,wO,wC];unfold dgF;simp
   have j0:List.replicate l.length (0:Int)=whK F i l.length:=by rw[←v8,wC]
   refine zcw (ι:=Nat) (λ(n:Nat)=>[(1,btsA l),(3,.ptr 3 0 0 0),(7,iv 0),(8,iv (pdL F:Int)),(10,chsA F),(14,.own 31),(15,iv (i:Int)),(16,iv ((i/pdL (F.drop n):Nat):Int)),(17,.own 61),(18,iv ((n:Int)-1))]) (λ(n:Nat)=>[(3,.box (mnE m) 23),(31,.row sgsE (acV m (durB l) F i) 33 1),(61,.row intE (whK F i n) 3 1)]) (λ(n:Nat)=>n<=l.length) (λ(n:Nat)=>n) l.length (λn hk=>?_) (hJ:=by exact jE _) (h0:=by exact yg);refine gd ?_ ?_<;>intro x1
   ·obtain⟨n,rfl⟩:∃n0,n=n0+1:=⟨n-1,by omega⟩;obtain⟨f,hf⟩:∃f,F[n]? =some f:=⟨_,lgg (by omega)⟩;have E:(((n+1:Nat):Int)-1).toNat=n:=by omega
    have v5:F[(((n+1:Nat):Int)-1).toNat]? =some f:=by rw[E];exact hf
    have hZ:=U f (j5 hf);have v4:=zoW (F:=F) (i:=i) (n:=n+1) (by omega);have Q:(whK F i (n+1)).set (((n+1:Nat):Int)-1).toNat (((i/pdL (F.drop (n+1)):Nat):Int)%(f.length:Int))=whK F i n:=by rw[E];exact zzX hf
    have hY:=ldQ (i:=i) hf;have hX:=Nat.div_le_self i (pdL (F.drop (n+1)));have v0:(0:Int)<=((i/pdL (F.drop (n+1)):Nat):Int):=Int.natCast_nonneg _;refine gq ?_;refine yo (n) (hI:=yg)
   ·obtain rfl:n=0:=by omega
    apply kK;apply ye;refine yi ?_;(iterate 2 apply yf);have hW:[]=rnQ F i 0:=by unfold rnQ;rfl
    refine kJ (yE sgE 90 17 19 32 rfl rfl) ?_;apply yj;refine yi ?_;apply kA;refine ze (λk=>[(1,btsA l),(3,.ptr 3 0 0 0),(7,iv 0),(8,iv (pdL F:Int)),(10,chsA F),(14,.own 31),(15,iv (i:Int)),(17,.own 61),(19,.own 32),(20,iv (k:Int))]) (λk=>[(3,.box (mnE m) 23),(31,.row sgsE (acV m (durB l) F i) 33 1),(61,.row intE (whK F i 0) 3 1),(32,.row sgE (rnQ F i k) 90 17)]) l.length (λk hk=>?_);refine gd ?_ ?_<;>intro hU
    ·obtain⟨f,hf⟩:∃f,F[k]? =some f:=⟨_,lgg (by omega)⟩;have v5:F[(k:Int).toNat]? =some f:=by simpa using hf
     have hT:(whK F i 0)[(k:Int).toNat]? =some ((i/pdL (F.drop (k+1))%f.length:Nat):Int):=by rw[wC];exact zxh hf
     have v4:=zoW (F:=F) (i:=i) (n:=0) (by omega);have v3:i/pdL (F.drop (k+1))%f.length<f.length:=vY _ (U f (j5 hf));obtain⟨s,hs⟩:∃s,f[i/pdL (F.drop (k+1))%f.length]? =some s:=⟨_,lgg v3⟩;have hQ:f[((i/pdL (F.drop (k+1))%f.length:Nat):Int).toNat]? =some s:=by rw[wC];exact hs
     have Q:=zzY hf hs;have xT:=zlH T i k;have hP:=T f (j5 hf) s (j5 hs);refine gq ?_;refine yQ [92,93,94,95,96,97,98,99,100,101,102] [0,0,0,6,14,0,0,96,224,510,1022,2047,4095] mo ?_;(iterate 11 refine yb ?_);refine yx ?_;refine zag (zv (l:=rnQ F i k) (l2:=s) rfl rfl rfl SlK.h TiK.h (by decide) (by decide) (λ_=>rfl) (λ_=>rfl) (by omega) rfl) ?_;refine gq ?_;refine yo (k+1) (hI:=yg)
    ·obtain rfl:k=l.length:=by omega
     have v1:rnQ F i l.length=rnD F i:=by have:=zvu (F:=F) (i:=i) l.length (by omega);rw[←V,wO]at this;rw[←V,←this];unfold rnD;rw[w4]
     have xT:=zlH T i l.length;have x4:=zzV J (v9 i H);rw[v1]at xT⊢;apply kK;apply yf;refine kJ (k9 (k:=32) rfl) ?_;refine gq ?_;refine yM (zhA m l (rnD F i) (by omega) (by omega)) ?_;(iterate 5 refine ya ?_);apply yG;(iterate 2 refine ya ?_);refine kG 2 ?_;refine yn ?_;refine kF ?_;refine gf ?_ ?_<;>intro N
     ·have Q:acV m (durB l) F i++[rnD F i]=acV m (durB l) F (i+1):=by rw[zvv,j4 (by rw[←x4,N.1,N.2];rfl)]
      have hM:=zxi m (durB l) F i;refine gq ?_;refine yz sgsE [rnD F i] ?_;refine gq ?_;refine yo (i+1) (hI:=yg)
     ·have Q:acV m (durB l) F i=acV m (durB l) F (i+1):=by rw[zvv,j3 (by rw[←x4];intro e;rw[j7,w9]at e;rcases N with h1|h1;(exact h1 e.1);(rw[e.2]at h1;cases h1)),w4]
      refine gq ?_;refine yo (i+1) (hI:=yg)
  ·obtain rfl:i=pdL F:=by omega
   apply kK;apply ye;refine yq ?_;refine kE ?_;refine k8 (k9 (k:=31) rfl) ?_;refine yh ?_ ?_;all_goals(first|exact zE I|exact j6 (λz=>zp z) (hE.trans I.symm)|rfl|exact zE Z)
end
section
def lsM(m:Mn)(z:List Bt)(n:Int)(i:Nat):Bool:=wq m z n&&(List.range i).all λ(j:Nat)=>!(lsQ (j:Int) n&&wq m z (j:Int))
def zzZ(m:Mn)(z:List Bt)(n:Int):wq m z n=lsM m z n 0:=by unfold lsM;simp
def zz0(m:Mn)(z:List Bt)(n:Int)(i:Nat):(lsM m z n i&&!(lsQ (i:Int) n&&wq m z (i:Int)))=lsM m z n (i+1):=by
 unfold lsM;rw[vF,List.all_append,u7];simp
def zrw(j n:Nat)(Z:j<8)(V:n<8):lsQ (j:Int) (n:Int)=(decide (j<n)&&decide (andI (j:Int) (n:Int)=(j:Int))):=by
 have key:∀j n:Fin 8,lsQ ((j:Nat):Int) ((n:Nat):Int)=(decide ((j:Nat)<(n:Nat))&&decide (andI ((j:Nat):Int) ((n:Nat):Int)=((j:Nat):Int))):=by decide+kernel
 exact key ⟨j,Z⟩ ⟨n,V⟩
def zz1{m:Mn}{z:List Bt}{n:Nat}(U:n<8):lsM m z (n:Int) 8=lsK m z (n:Int) n:=by
 unfold lsM lsK;congr 1;rw[Bool.eq_iff_iff,jF,jF];constructor
 ·intro h j Z;have V:=wY.1 Z;have:=h j (wY.2 (by omega));rw[zrw j n (by omega) U,jH V,wZ]at this;exact this
 ·intro h j Z;have V:=wY.1 Z;rw[zrw j n V U];by_cases c:j<n
  ·rw[jH c,wZ];exact h j (wY.2 c)
  ·rw[jD c];rfl
def zz2{m:Mn}{z:List Bt}{n:Nat}(Z:wcnE m z (hbM 7)=0)(T:n<8):(decide (wcnE m z (hbM (n:Int))=0)&&decide ((0:Int)<((wlV m z (hbM (n:Int))).length:Int)))=wq m z (n:Int):=by
 have U:wcE m z=0:=by apply jZ;intro V;have:=(zjs (h:=hbM 7) V).1;rw[this]at Z;exact V Z
 have Q:=zha Z;have N:cnP m (hbM 7) z<=4096:=by apply jZ;intro V;have:=(zmH (h:=hbM 7) U (by omega) (by omega)).1;rw[this]at Z;cases Z
 have J:=zoe (zyw (hbM (n:Int))) m z;have h0:wcnE m z (hbM (n:Int))=0:=(zoU U (by omega) (by omega)).1;rw[jH h0,wZ,zwe,zmk n T];unfold wlV;rw[j4 h0];exact decide_eq_decide.2 (by omega)
attribute [local irreducible] Pur yA yC Ex X Fn Imp LeV LeB FnO It yH FnW FnOW FnP FnD
attribute [local irreducible] mnF8 hbN hbM wcE wcnE wcnV wlV wq hv lsK lsM lsQ wyX andI
def zcH(m:Mn)(l:List Bt)(h:Hb)(hl:l.length<=4000000000):Fn prog 36 [mnA m,btsA l,hbA h] (.tup [iv ((wlV m l h).length:Int),iv (wcnE m l h)]):=by
 refine kC func36 ntmps36 (λg w d=>?_);refine gc (zbR m l h hl) ?_;refine yh ?_ ?_;all_goals rfl
set_option maxHeartbeats 8000000 in
def zeD(m:Mn)(z:List Bt)(hl:z.length<=4000000000):Fn prog 14 [mnA m,btsA z] (.tup [.sl hbE (miV m z),iv (wcnE m z (hbM 7))]):=by
 have x4:[]=mnF8 m z 0:=by unfold mnF8;rfl
 have x3:[AV.bool false,.bool false,.bool false,.bool false,.bool false,.bool false,.bool false,.bool false]=hsC m z 0:=by unfold hsC;simp[hv]
 refine kC func14 ntmps14 (λg w d=>?_);refine gq ?_;refine yQ [6,7,16,17,18,19,20,21,22] [0,0,0,7,15,31,31,63,255] mo ?_;iterate 2 refine yb ?_
 refine yI (zaX 7) ?_;refine yI (zO m z (hbM 7) (by omega)) ?_;iterate 5 refine yb ?_
 refine yx ?_;refine gd ?_ ?_<;>intro Z
 ·have H:hbM 7=hbN 7:=(zmk 7 (by decide)).symm;have T:miV m z=[]:=by unfold miV;rw[←H,j3 Z]
  apply ye;refine yq ?_;refine kE ?_;refine k8 (yd (ts:=[(4,.sl hbE []),(5,iv (wcnE m z (hbM 7)))]) (hs:=[])) ?_;refine yh ?_ ?_;all_goals(first|exact zE T|exact j6 (λy=>AV.sl hbE y) T.symm|exact j6 (AV.int .i64) Z.symm|rfl)
 have H:hbM 7=hbN 7:=(zmk 7 (by decide)).symm;have T:miV m z=mnF8 m z 8:=by unfold miV;rw[←H,j4 Z]
 apply yl;apply ye;refine zb ?_;apply kL;apply yf;apply ye;refine yi ?_;apply kA;refine ze (λn=>[(1,btsA z),(2,.ptr 2 0 0 0),(8,.ptr 8 0 0 0),(9,iv (n:Int))]) (λn=>[(2,.box (mnE m) 23),(8,.box (hsC m z n) 94)]) 8 (λn hk=>?_);refine gd ?_ ?_<;>intro x2
 ·have hq:=zz2 (n:=n) Z (by omega);have E:0*0+(0+(n:Int).toNat*1)<(hsC m z n).length:=by rw[ziy];omega
  have xT:setAt (hsC m z n) (0*0+(0+(n:Int).toNat*1)) [.bool (decide (wcnE m z (hbM (n:Int))=0)&&decide ((0:Int)<((wlV m z (hbM (n:Int))).length:Int)))]=hsC m z (n+1):=by rw[hq];exact zvw (by omega) (by unfold hv;simp)
  refine gq ?_;refine yQ [10,11,30,31,32,33,34,35,36,37] [0,0,0,4,15,31,63,63,127,511] mo ?_;iterate 3 refine yb ?_
  refine yI (zaX (n:Int)) ?_;refine yI (zcH m z (hbM (n:Int)) hl) ?_;iterate 5 refine yb ?_
  refine yx ?_;apply kL;apply yj;iterate 3 refine ya ?_
  refine kG 3 ?_;refine yn ?_;iterate 2 refine kF ?_
  refine zds ?_;iterate 2 refine ya ?_
  refine kI (hs:=zar rfl rfl rfl rfl TyK.h E) ?_;refine gq ?_;refine yo (n+1) (hI:=yg)
 ·obtain rfl:n=8:=by omega
  apply kK;apply ye;refine yi ?_;iterate 2 apply yf
  refine kJ (yE hbE 32 3 12 30 rfl rfl) ?_;apply yj;refine yi ?_;apply kA;refine ze (λn=>[(8,.ptr 8 0 0 0),(12,.own 30),(13,iv (n:Int))]) (λn=>[(8,.box (hsC m z 8) 94),(30,.row hbE (mnF8 m z n) 32 3)]) 8 (λn hk=>?_);refine gd ?_ ?_<;>intro x1
  ·have V:=zfw (m:=m) (z:=z) (n:=8) (i:=n) (by omega);rw[show decide (n<8)=true from jH (by omega),wZ,zzZ]at V;have x0:=zhc m z n;have U:=zrA m z n;rw[zmk n (by omega)]at U;apply yl;apply yf;apply kA;apply ye;(iterate 2 refine ya ?_);refine ya (hs:=zl rfl rfl V TyK.h) ?_;refine yi ?_;apply yf;apply ye;refine yi ?_;apply kA;refine ze (λi=>[(8,.ptr 8 0 0 0),(12,.own 30),(13,iv (n:Int)),(14,.bool (lsM m z (n:Int) i)),(15,iv (i:Int))]) (λi=>[(8,.box (hsC m z 8) 94),(30,.row hbE (mnF8 m z n) 32 3)]) 8 (λi hk=>?_);refine gd ?_ ?_<;>intro w2
   ·have Q:=zfw (m:=m) (z:=z) (n:=8) (i:=i) (by omega);rw[show decide (i<8)=true from jH (by omega),wZ]at Q;have N:=zz0 m z (n:Int) i;apply yl;apply yf;apply kA;apply yj;refine ya ?_;refine kG 1 ?_;refine gq ?_;refine kQ (zgm (i:Int) (n:Int)) ?_;(iterate 3 refine kF ?_);refine kF (hs:=λv9=>zl rfl rfl Q TyK.h) ?_;(iterate 2 refine kF ?_);refine ge ?_;refine yo (i+1) (hI:=yg)
   ·obtain rfl:i=8:=by omega
    have J:=zz1 (m:=m) (z:=z) (n:=n) (by omega);refine gd ?_ ?_<;>intro I
    ·rw[j4 (by rw[←J];exact I)]at U;have N:=U.symm;refine gq ?_;refine yM (zaX (n:Int)) ?_;refine yz hbE [hbM (n:Int)] ?_;refine gq ?_;refine yo (n+1) (hI:=yg)
    ·rw[j3 (by rw[←J,I];decide),w4]at U;have N:=U.symm;refine gq ?_;refine yo (n+1) (hI:=yg)
  ·obtain rfl:n=8:=by omega
   apply kK;apply ye;refine yq ?_;refine kE ?_;refine k8 (k9 (k:=30) rfl) ?_;refine yh ?_ ?_;all_goals(first|exact zE T|exact j6 (λy=>AV.sl hbE y) T.symm|exact j6 (AV.int .i64) Z.symm|rfl)
end
section
attribute [local irreducible] Pur yA yC Ex X Fn Imp LeV LeB FnO It yH FnW FnOW FnP FnD
attribute [local irreducible] ltQ miV hbN hbM wcnE
def zb8(m:Mn)(z:List Bt)(Z:20<z.length):Fn prog 11 [mnA m,btsA z] (.bool false):=by
 refine kC func11 ntmps11 (λg w d=>?_);refine gd ?_ ?_<;>intro V
 ·refine gq ?_;all_goals exact zR
 omega
set_option maxHeartbeats 4000000 in
def C_tactuslaw24_WritingsMinimal(m:Mn)(z:List Bt):Fn prog 3 [mnA m,btsA z] (.bool true):=by
 have U:Fn prog 11 [mnA m,btsA z] (.bool (ltQ m z)):=by
  by_cases h:z.length<=20
  ·exact za5 m z (by omega)
  ·have q:=zb8 m z (by omega);rw[show ltQ m z=false by unfold ltQ;rw[jD h];rfl];exact q
 refine kC func3 ntmps3 (λg w d=>?_);refine gc U ?_;refine gd ?_ ?_<;>intro Z
 ·apply ye;refine gc zj ?_;all_goals rfl
 have N:z.length<=20:=by unfold ltQ at Z;rw[j7,jT]at Z;exact Z.1
 have V:=zeD m z (by omega);rw[show hbM 7=hbN 7 from(zmk 7 (by decide)).symm]at V;refine gc (zdi m z (by omega)) ?_;refine yM V ?_;iterate 2 refine ya ?_
 refine yq ?_;apply yf;apply ye;iterate 5 refine ya ?_
 refine kG 5 ?_;refine yn ?_;iterate 3 refine kF ?_
 refine gf ?_ ?_<;>intro T
 ·simp at T
 apply yl;apply yf;apply ye;refine yi ?_;apply kA;refine ze (λi=>[(5,.sl hbE (miV m z)),(7,.sl hbE (miV m z)),(9,iv (i:Int))]) (λi=>[]) ((miV m z).length) (λi E=>?_);refine gd ?_ ?_<;>intro J
 ·obtain⟨x,hx⟩:∃x,(miV m z)[i]? =some x:=⟨_,lgg (by omega)⟩;have I:(miV m z)[(i:Int).toNat]? =some x:=by simpa using hx
  have H:(miV m z).length<=8:=by unfold miV;split;(exact zhc m z 8);(simp)
  refine gq ?_;refine yQ [43,44,45,46,47,48,49,50,51] [0,0,3,7,0,0,48,112,255] mo ?_;iterate 8 refine yb ?_
  refine yb ?_ (hs:=by exact zbd (zoa _ _) inferInstance TyK.h rfl rfl rfl rfl rfl);refine yx ?_;refine gd ?_ ?_<;>intro Q
  ·exact absurd rfl Q
  refine gq ?_;refine yo (i+1) (hI:=yg)
 ·refine gc zj ?_;all_goals rfl
end
end Go.Rse
