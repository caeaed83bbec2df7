/-
  Walks.
-/
import Derived.Test.YtamceaedmdmmlaaGreatDoorZJLvl4
set_option linter.all false
set_option maxHeartbeats 4000000
namespace Go.Rse
open Go Go.Proofs Go.Proofs.Tryz
section
attribute [local irreducible] Pur yy yz Ex X Fn Imp LeV LeB FnO It yH FnW FnOW
def zre(l:List Ite):(lasL l).length<=l.length:=by
 have h:=zic l;unfold lasL;cases Z:(fsL l).getLast? with
 |none=>simp
 |some a=>
  simp only[w8,jS];have:=wZ (λt=>decide (subE a t=0)) (fsL l).dropLast;rw[List.length_dropLast]at this;have:(fsL l)≠[]:=λe=>by rw[e]at Z;simp at Z
  have:=uH.2 this;omega
def zdm{l:List Ite}{i:Int}(h0:0<=i)(h:i<l.length):l[i.toNat]? =some (itg l i):=by
 unfold itg;rw[jD,lgg (by omega)];rfl
def zxW{k:Int}{l:List Ite}{h:Int}(h1:(itg l h).Value=k)(Z:h+1<l.length)(T:(itg l h).Cut<=0)(V:(itg l (h+1)).Color=false)(U:(itg l (h+1)).Value=k):blQ k l h=true:=by
 unfold blQ;rw[jJ h1,jJ Z,jH (show¬0<(itg l h).Cut by omega),V,jJ U];rfl
def zxX{k:Int}{l:List Ite}{h:Int}(Z:(¬(itg l h).Value=k\/(l.length:Int)<=h+1)\/0<(itg l h).Cut):blQ k l h=false:=by
 unfold blQ;rcases Z with(Z|Z)|Z
 ·rw[jH Z];rfl
 ·rw[jH (show¬h+1<(l.length:Int)by omega)];simp
 ·rw[jJ Z];simp
def zxY{k:Int}{l:List Ite}{h:Int}(Z:(itg l (h+1)).Color=true\/¬(itg l (h+1)).Value=k):blQ k l h=false:=by
 unfold blQ;rcases Z with Z|Z
 ·rw[Z];simp
 ·rw[jH Z];simp
def zAF{s:Sgm}(h:s.From=s.To\/s.Free=true):(decide (s.From=s.To)||s.Free)=true:=by
 rcases h with h|h
 ·rw[jJ h];rfl
 ·rw[h];simp
def zAG{s:Sgm}(h:¬s.From=s.To/\s.Free=false):(decide (s.From=s.To)||s.Free)=false:=by
 rw[jH h.1,h.2];rfl
def tbL(f w p a t:Bool):List (List Bool):=[[true,f,f],[false,w&&p,false],[false,!f&&a,false],[false,false,!f&&p&&a],[false,false,!f&&t]]
def tbV(f w p a t:Bool)(k:Nat)(r:Nat):Bool:=((tbL f w p a t).getD k []).getD r false
abbrev tbA(f w p a t:Bool):List AV:=[.bool true,.bool f,.bool f,.bool false,.bool (w&&p),.bool false,.bool false,.bool (!f&&a),.bool false,.bool false,.bool false,.bool (!f&&p&&a),.bool false,.bool false,.bool (!f&&t)]
def zxZ(f w p a t:Bool){k:Nat}(h:k<5):((tbA f w p a t).drop ((k:Int).toNat*3)).take 3=[.bool (tbV f w p a t k 0),.bool (tbV f w p a t k 1),.bool (tbV f w p a t k 2)]:=by
 have:k=0\/k=1\/k=2\/k=3\/k=4:=by omega
 rcases this with rfl|rfl|rfl|rfl|rfl<;>rfl
def zAH(f w p a t:Bool){k:Nat}(h:k<5){r:Int}(h0:0<=r)(V:r<3):([.bool (tbV f w p a t k 0),.bool (tbV f w p a t k 1),.bool (tbV f w p a t k 2)]:List AV)[0*0+(0+r.toNat*1)]? =some (.bool (tbV f w p a t k r.toNat)):=by
 have h1:k=0\/k=1\/k=2\/k=3\/k=4:=by omega
 have Z:r=0\/r=1\/r=2:=by omega
 rcases h1 with rfl|rfl|rfl|rfl|rfl<;>rcases Z with rfl|rfl|rfl<;>rfl
def alP(f w p a t:Bool)(r:Nat):Nat->List Int
 |0=>[]
 |k+1=>alP f w p a t r k++if tbV f w p a t k r=true\/(k=0/\f=true)then[(k:Int)]else[]
def zAI{f w p a t:Bool}{r n:Nat}(h:tbV f w p a t n r=true\/((n:Int)=0/\f=true)):alP f w p a t r n++[(n:Int)]=alP f w p a t r (n+1):=by
 show _=_++_;rw[j6 (by rcases h with h|⟨h,Z⟩;exact .inl h;exact .inr ⟨by omega,Z⟩)]
def zAJ{f w p a t:Bool}{r n:Nat}(h:tbV f w p a t n r=false/\(¬(n:Int)=0\/f=false)):alP f w p a t r n=alP f w p a t r (n+1):=by
 show _=_++_;rw[j7 (λZ=>by rcases Z with Z|⟨Z,U⟩;(rw[h.1]at Z;cases Z);(rcases h.2 with V|V;(exact V (by omega));(rw[V]at U;cases U))),wO]
def zoR(f w p a t:Bool)(r:Nat):∀k,(alP f w p a t r k).length<=k
 |0=>jE _
 |k+1=>by
  have:=zoR f w p a t r k;rw[show alP f w p a t r (k+1)=alP f w p a t r k++(if tbV f w p a t k r=true\/(k=0/\f=true)then[(k:Int)]else[])from rfl,jC];split<;>simp<;>omega
def ztR(p a t:Bool){s:Sgm}:alP s.Free (decide (s.Count.D=1)) p a t (s.Count.N%3).toNat 5=alR p a t s:=by
 have Z:=uS s.Count.N (show(3:Int)≠0 by omega);have V:=uD s.Count.N (show(0:Int)<3 by omega);unfold alR;generalize s.Count.N%3=r at*
 have hr:r=0\/r=1\/r=2:=by omega
 have U:∀w:Bool,w=decide (s.Count.D=1)->(s.Count.D=1↔w=true):=λw e=>by rw[e];simp
 have:=U _ rfl;generalize decide (s.Count.D=1)=w at*
 simp only[this];generalize s.Free=f at*
 rcases hr with rfl|rfl|rfl<;>cases f<;>cases w<;>cases p<;>cases a<;>cases t<;>rfl
def zrf:mpOk prog 283 3 4:=⟨by kernel_rfl,_,Tryz.underlying3⟩
def zoS:∃d,prog.underlying 3=some (.int d)/\d=.i64:=⟨_,Tryz.underlying3,rfl⟩
def zrg{P:Program}{T:TypeId}(h:(P.info? T).bind (·.zero)=some (.bool false)):∃z i,P.info? T=some i/\i.zero=some z/\∀I,RV I noNames (.bool false) z:=by
 cases hi:P.info? T with
 |none=>simp[hi]at h
 |some i=>exact⟨.bool false,i,rfl,by simpa[hi]using h,λI=>.bool _⟩
def zrh:∃z i,prog.info? 4=some i/\i.zero=some z/\∀I,RV I noNames (AV.bool false) z:=zrg ze4
attribute [local irreducible] fsL fsP fsA lasL laP cmpV addV addE subV subE drL
def zdB(l:List Ite)(k:Int)(u:Tm)(b:Nat)(L:List (Int×Bool))(s:Sgm)(hs:SgB l.length s)(hl:l.length<=1000000):FnW prog 287 [.ept (λ_:Unit=>[.sl itE l,iv k,iv u.N,iv u.D,.val (.map (some b))]) () 0,smA s] (.bool (poQ u k l L s)) (zhR b (λi:Int=>.int .i64 i) AV.bool L):=by
 have f0:=hs.f0;have ft:=hs.ft;have tn:=hs.tn;have lf:=hs.lf;have Z:(itR l s).length<=1000000:=by unfold itR;simp;omega
 have J:=zic (itR l s);refine FnW.go func287 ntmps287 (λg w d H V=>?_);refine gd ?_ ?_<;>intro U
 ·have hE:poQ u k l L s=false:=by unfold poQ;rw[jJ U];rfl
  refine gq ?_;all_goals rw[hE]
 have hx:=zdm (l:=l) (i:=s.Left) (by omega) lf;have hE:poQ u k l L s=((decide ((itg l s.Left).Value<k)||!(mget s.Left L).getD false)&&lgQ u (itg l s.Left)&&rcQ u (fsL (itR l s)) (itg l s.Left).After):=by unfold poQ;rw[jH (show¬s.Left<0 by omega)];rfl
 refine gq ?_;refine yW [5,9,10,11,12,13,14,15,16,17] [0,1,3,7,15,0,32,127,255,0,1023] mo ?_;iterate 9 refine yb ?_
 refine ChM.step rfl rfl rfl (zp (k:=5) zhd) rfl ?_;refine yI ?_;refine gq ?_;refine yW [4,18,19,20,21,22,23,24,25,26,27,28,29,30,31,32,33,34,35,36,37,38,39,40,41,42,43,44,45,46,47,48,49,50,51,52,53,54,55,56] [0,1,0,4,12,28,63,127,255,511,1023,2047,255,4351,16383,32767,65535,131071,262143,262143,1048575,2097151,4194303,8388607,8388607,25165823,58720255,125829119,260046847,8388607,545259519,8388607,2155872255,8581545983,17171480575,8388607,34368126975,137438953471,274877906943,549755813887] mo ?_;iterate 8 refine yb ?_
 iterate 6 refine kZ ?_
 refine kZ ?_ (hs:=by intro T;exact zqp false H V zrf zoS zrh);refine kZ ?_;iterate 2 refine yb ?_
 iterate 2 refine kZ ?_
 refine bK (zbi l k u b (itg l s.Left)) ?_;iterate 2 refine yb ?_
 iterate 10 refine kZ ?_
 refine kZ ?_ (hs:=by intro T;exact zdj rfl rfl rfl zhT zkZ (λ_=>rfl) (by omega) (by omega) (by omega));refine bK (zfE (itR l s) Z) ?_;iterate 2 refine kZ ?_
 refine bK (za5 l k u b (fsL (itR l s)) (itg l s.Left).After (by omega)) ?_;iterate 2 refine yb ?_
 refine yI ?_;refine gq ?_;all_goals rw[hE]
def zdC(l:List Ite)(k:Int)(u:Tm)(b:Nat)(s:Sgm)(hs:SgB l.length s)(hl:l.length<=1000000):Fn prog 288 [.ept (λ_:Unit=>[.sl itE l,iv k,iv u.N,iv u.D,.val (.map (some b))]) () 0,smA s] (.bool (anQ u k l s)):=by
 have f0:=hs.f0;have ft:=hs.ft;have tn:=hs.tn;have rt:=hs.rt;have V:(itR l s).length<=1000000:=by unfold itR;simp;omega
 have x4:=zre (itR l s);refine kR func288 ntmps288 (λg w d=>?_);refine gd ?_ ?_<;>intro J
 ·have hE:anQ u k l s=false:=by unfold anQ;rw[jJ J];rfl
  refine gq ?_;all_goals rw[hE]
 have hx:=zdm (l:=l) (i:=s.Right) (by omega) rt;refine gq ?_;refine yW [5,10,11,12,13,14,15,16,17,18] [0,1,3,7,15,0,32,127,255,0,1023] mo ?_;iterate 9 refine yb ?_
 refine ChM.step rfl rfl rfl (zp (k:=5) zhd) rfl ?_;refine yI ?_;refine gq ?_;refine yW [19,20,21,22,23,24,25,26,27,28,29,30,31,32,33,34,35,36,37,38,39,40,41,42,43] [0,1,0,4,12,28,63,127,255,511,1023,255,2303,6399,14591,30975,63743,131071,262143,524287,1048575,2097151,4194303,8388607,16777215] mo ?_;iterate 8 refine yb ?_
 iterate 10 refine kZ ?_
 iterate 2 refine yb ?_
 iterate 4 refine kZ ?_
 refine yb ?_;refine yI ?_;refine gd ?_ ?_<;>intro U
 ·obtain⟨⟨H,G⟩,E⟩:=U;have x3:=zdm (l:=l) (i:=s.Right+1) (by omega) (by omega);apply yh;refine yW [6,44,45,46,47,48,49,50,51,52,53] [0,1,3,7,15,0,32,96,255,511,0,2047] mo ?_;iterate 10 refine yb ?_
  refine ChM.step rfl rfl rfl (zp (k:=6) zhd) rfl ?_;refine yI ?_;refine gq ?_;refine yW [54,55,56,57,58,59,60,61,62,63,64,65] [0,1,3,7,15,31,15,79,207,463,1023,2047] mo ?_;iterate 4 refine yb ?_
  iterate 7 refine kZ ?_
  refine yb ?_;refine yI ?_;refine gd ?_ ?_<;>intro Z
  ·have T:blQ k l s.Right=true:=zxW H G E Z.1 Z.2;have hE:anQ u k l s=false:=by unfold anQ;rw[T,jH (show¬s.Right<0 by omega)];rfl
   refine gq ?_;all_goals rw[hE]
  have T:blQ k l s.Right=false:=zxY Z;have hE:anQ u k l s=(lgQ u (itg l s.Right)&&rcQ u (lasL (itR l s)) (itg l s.Right).Before):=by unfold anQ;rw[jH (show¬s.Right<0 by omega),T];rfl
  refine gq ?_;refine yW [4,66,67,68,69,70,71,72,73,74,75,76,77,78,79,80,81,82,83,84,85] [0,0,3,7,15,15,47,111,239,495,15,1039,15,4111,16367,32751,15,65551,262143,524287,1048575] mo ?_;iterate 2 refine yb ?_
  refine yO (zbi l k u b (itg l s.Right)) ?_;refine yb ?_;iterate 10 refine kZ ?_
  refine kZ ?_ (hs:=by intro xT;exact zdj rfl rfl rfl zhT zkZ (λ_=>rfl) (by omega) (by omega) (by omega));refine bK (zgF (itR l s) V) ?_;iterate 2 refine kZ ?_
  refine bK (za5 l k u b (lasL (itR l s)) (itg l s.Right).Before (by omega)) ?_;iterate 2 refine yb ?_
  refine yI ?_;refine gq ?_;all_goals rw[hE]
 ·have T:blQ k l s.Right=false:=zxX U;have hE:anQ u k l s=(lgQ u (itg l s.Right)&&rcQ u (lasL (itR l s)) (itg l s.Right).Before):=by unfold anQ;rw[jH (show¬s.Right<0 by omega),T];rfl
  refine gq ?_;refine yW [4,66,67,68,69,70,71,72,73,74,75,76,77,78,79,80,81,82,83,84,85] [0,0,3,7,15,15,47,111,239,495,15,1039,15,4111,16367,32751,15,65551,262143,524287,1048575] mo ?_;iterate 2 refine yb ?_
  refine yO (zbi l k u b (itg l s.Right)) ?_;refine yb ?_;iterate 10 refine kZ ?_
  refine kZ ?_ (hs:=by intro xT;exact zdj rfl rfl rfl zhT zkZ (λ_=>rfl) (by omega) (by omega) (by omega));refine bK (zgF (itR l s) V) ?_;iterate 2 refine kZ ?_
  refine bK (za5 l k u b (lasL (itR l s)) (itg l s.Right).Before (by omega)) ?_;iterate 2 refine yb ?_
  refine yI ?_;refine gq ?_;all_goals rw[hE]
def zgG(l:List Ite)(k:Int)(u:Tm)(b:Nat)(s:Sgm)(hs:SgB l.length s)(hl:l.length<=1000000)(k0:-9223372036854775808<=k)(k1:k+1<=9223372036854775807):Fn prog 289 [.ept (λ_:Unit=>[.sl itE l,iv k,iv u.N,iv u.D,.val (.map (some b))]) () 0,smA s] (.bool (atQ u k l s)):=by
 have f0:=hs.f0;have ft:=hs.ft;have tn:=hs.tn;have rt:=hs.rt;refine kR func289 ntmps289 (λg w d=>?_);apply ye;refine zz ?_;refine yj ?_;apply yh;apply ye;iterate 5 refine ya ?_
 refine kU 5 ?_;refine yo ?_;iterate 2 refine kS ?_
 refine gf ?_ ?_<;>intro Z
 ·have hE:atQ u k l s=false:=by unfold atQ;rw[zAF Z];rfl
  refine gq ?_;all_goals(first|exact zE hE|(rw[hE];unfold ntQ;rfl))
 have hx:=zdm (l:=l) (i:=s.To-1) (by omega) (by omega);have hE:atQ u k l s=(ntQ u k (itg l (s.To-1))&&(decide (s.Right<0)||decide ((itg l s.Right).Before.N=0))):=by unfold atQ;rw[zAG Z];rfl
 refine gq ?_;refine yW [5,16,17,18,19,20,21,22,23,24,25] [0,1,3,7,15,0,32,96,255,511,0,2047] mo ?_;iterate 10 refine yb ?_
 refine ChM.step rfl rfl rfl (zp (k:=5) zhd) rfl ?_;refine yI ?_;refine gq ?_;refine yW [6,26,27,28,29,30,31,32,33,34,35,36,37,38,39,40,41,42,43,44,45,46,47,48,49,50,51,52,53,54,55,56,57] [0,1,3,7,15,31,63,127,255,511,1023,2047,4095,8191,16383,32767,16383,81919,212991,475135,999423,2097151,4194303,8388607,16777215,33554431,16777215,83886079,218103807,486539263,1073741823,2147483647,4294967295] mo ?_;iterate 4 refine yb ?_
 iterate 3 refine kZ ?_
 iterate 2 refine yb ?_
 iterate 3 refine kZ ?_
 iterate 2 refine yb ?_
 iterate 8 refine kZ ?_
 iterate 2 refine yb ?_
 iterate 7 refine kZ ?_
 iterate 2 refine yb ?_
 refine yI ?_;refine gq ?_;refine yW [4,58,59,60,61,62,63,64,65,66,67,68,69,70,71,72,73,74,75,76,77] [0,1,3,7,15,31,63,127,255,511,1023,63,2111,8191,16383,32767,65535,131071,262143,524287,1048575] mo ?_;iterate 2 refine yb ?_
 iterate 17 refine kZ ?_
 iterate 2 refine yb ?_
 refine yI ?_;refine gq ?_;all_goals(first|exact zE hE|(rw[hE];unfold ntQ;rfl))
def za6(l:List Ite)(k:Int)(u:Tm)(b:Nat)(L:List (Int×Bool))(s:Sgm)(hs:SgB l.length s)(hl:l.length<=1000000)(k0:-9223372036854775808<=k)(k1:k+1<=9223372036854775807)(hN:0<=s.Count.N):FnOW prog 257 [.ept (λ_:Unit=>[.sl itE l,iv k,iv u.N,iv u.D,.val (.map (some b))]) () 0,smA s] intE (alQ u k l L s) 3 1 (zhR b (λi:Int=>.int .i64 i) AV.bool L):=by
 have J:=uS s.Count.N (show(3:Int)≠0 by omega);have H:=uD s.Count.N (show(0:Int)<3 by omega);refine FnOW.go func257 ntmps257 (rv:=[.tmp 4]) (λg w d hH G=>?_);have V:∀st g' a w',Rel (C0 86 d g w) st g' a w'->zhR b (λi:Int=>.int .i64 i) AV.bool L g'.I g'.O w':=λst g' a w' hr=>hH.now rfl G hr
 refine gq ?_;refine yW [7,19,20,21,22,23,24,25,26,27,28,29,30,31,32,33,34,35,36,37,38,39,40,41,42,43,44,45,46,47,48,49,50,51,52,53,54,55,56,57,58,59,60,61,62,63] [0,1,0,4,15,0,32,96,96,480,992,2016,0,4096,12288,29664,62432,62432,259040,521184,1045472,0,2097152,6291456,15201248,31978464,31978464,132641760,266859488,535294944,1072165856,1072165856,4293391328,8588358624,17178293216,0,34359738368,103079215104,249106527200,523984434144,523984434144,2173251875808,4372275131360,8770321642464,17592186044415,0,70368744177663] mo ?_;iterate 7 refine yb ?_
 iterate 2 refine kZ ?_
 refine ChM.lg (x:=.bool (poQ u k l L s)) V (zdB l k u b L s hs hl) ?_;iterate 6 refine yb ?_
 iterate 2 refine kZ ?_
 refine bK (zdC l k u b s hs hl) ?_;iterate 6 refine yb ?_
 iterate 2 refine kZ ?_
 refine ChM.lg (x:=.bool (poQ u k l L s)) V (zdB l k u b L s hs hl) ?_;iterate 2 refine yb ?_
 iterate 2 refine kZ ?_
 refine bK (zdC l k u b s hs hl) ?_;iterate 6 refine yb ?_
 iterate 2 refine kZ ?_
 refine bK (zgG l k u b s hs hl k0 k1) ?_;iterate 3 refine yb ?_
 refine ChM.step rfl rfl rfl (zp (k:=7) zxb) rfl ?_;refine yI ?_;refine kV ?_;apply yE;refine yj ?_;iterate 2 apply yh
 refine kT (yG intE 3 1 8 5 rfl rfl) ?_;apply yf;refine yQ ?_;apply kP;refine zm (λn=>[(3,.ptr 3 0 0 0),(6,iv (s.Count.N%3)),(8,.own 5),(64,.agg (tbA s.Free (decide (s.Count.D=1)) (poQ u k l L s) (anQ u k l s) (atQ u k l s))),(65,iv (n:Int))]) (λn=>[(3,.box (smE s) 260),(5,.row intE (alP s.Free (decide (s.Count.D=1)) (poQ u k l L s) (anQ u k l s) (atQ u k l s) (s.Count.N%3).toNat n) 3 1)]) 5 (λn hk=>?_) (h0:=yd);refine gd ?_ ?_<;>intro x4
 ·have U:n<5:=by omega
  have E:=zxZ s.Free (decide (s.Count.D=1)) (poQ u k l L s) (anQ u k l s) (atQ u k l s) U;have Z:=zAH s.Free (decide (s.Count.D=1)) (poQ u k l L s) (anQ u k l s) (atQ u k l s) U J H;have x3:=zoR s.Free (decide (s.Count.D=1)) (poQ u k l L s) (anQ u k l s) (atQ u k l s) (s.Count.N%3).toNat n;apply yk;apply yh;apply kP;apply ye;refine ya ?_;refine ya (hs:=by exact zI ArK.h TyK.h rfl rfl (by omega) (by omega) E) ?_;refine za ?_;refine ya ?_;refine kV ?_;apply yE;refine ya ?_;refine ya (hs:=by exact zhP rfl rfl ArK.h ty4 (by omega) (by omega)) ?_;refine ya (hs:=by exact zal rfl rfl Z ty4) ?_;refine kU 3 ?_;refine yo ?_;iterate 6 refine kS ?_
  refine gf ?_ ?_<;>intro T
  ·have xT:=zAI (r:=(s.Count.N%3).toNat) T;refine gq ?_;refine yD intE [_] ?_;refine gq ?_;refine yu (n+1)
  ·have xT:=zAJ (r:=(s.Count.N%3).toNat) T;refine gq ?_;refine yu (n+1)
 ·have hn:n=5:=by omega
  subst hn;have he:alP s.Free (decide (s.Count.D=1)) (poQ u k l L s) (anQ u k l s) (atQ u k l s) (s.Count.N%3).toNat 5=alQ u k l L s:=ztR _ _ _;apply bA;apply ye;refine yQ ?_;refine kQ ?_;refine⟨.inr rfl,[(4,.own 5)],[],yd,.one (.tmp rfl (kO rfl))⟩
end
section
section
variable{P:Program}{C:Ctx}{st:St}{ty:TypeId}{Q:Exit->St->Prop}{ops:Array Oper}{ms:List Nat}{hid:List Nat}{i m:Nat}{fs:List FactM}{o:Oper}{x:AV}{nb:Option (Nat×Blk)}
def ChM.lo{d:Nat}{α:Type}{enc:α->List AV}{l:List α}{E s:Nat}{f:FuncId}{caps xs:List AV}{fop:Operand}{args:Array Operand}{ts:Array TypeId}(q:Nat)(T:FnOW P f (xs++caps) enc l E s λ_ _ _=>True)(V:∀x,AV.flat.flatL (enc x)=true)(h:ChM P C ops ms st hid Q (i+1) (⟨i,some d,.own q,some (q,.row enc l E s),m,[]⟩::fs))(hm:ms[i]? =some m:=by exact rfl)(ho:ops[i]? =some o:=by exact rfl)(N:o.guard=none:=by exact rfl)(Z:o.dst=some d:=by exact rfl)
 (U:o.op=.call {callee:=.value fop,args:=args,argTypes:=ts}:=by exact rfl)(hf:ev (stV st hid m fs []) fop=some (.fn f caps):=by exact rfl)(hx:evs (stV st hid m fs []) args.toList=some xs:=by exact rfl)(J:d.blt C.n=true:=by exact rfl):ChM P C ops ms st hid Q i fs:=
 .step hm ho N (by rw[U];exact A_lendO (ι:=Unit) (stF:=λ_=>stV st hid m fs []) (caps:=λ_=>caps) (xs:=λ_=>xs) q (λg a w hr=>znj Imp.refl hr) (λ_=>T) V (λ_=>hf) (λ_=>hx) (λ_=>bC _)) (by rw[Z];exact J) (by rw[Z];exact h)
end
instance:ZcK prog 285 [.nils,.int .i64 0,.int .i64 0,.int .i64 0,.val (.map none)]:=⟨⟨_,zDh,rfl⟩⟩
attribute [local irreducible] Pur yy yz Ex X Fn Imp LeV LeB FnO It yH FnW FnOW
def set2{l:List Ite}{i:Nat}{x y:Ite}:(l.set i x).set i y=l.set i y:=by rw[List.set_set]
def zls{l:List Ite}{i:Nat}{x y:Ite}(h:l[i]? =some x):(l.set i y)[i]? =some y:=by
 have:=(j5.1 h).1;rw[List.getElem?_set];simp[this]
attribute [local irreducible] addV addE subV subE
def zhm(m:Mn)(k:Int)(l:List Ite)(h0:-9223372036854775808<=k)(h1:k<=9223372036854775807)(hl:l.length<=1000000)(hE:¬segE m k l=0):Fn prog 226 [mnA m,iv k,itsA l] (.tup [.val (.pointer none),smsA [],iv (segE m k l)]):=by
 refine kR func226 ntmps226 (λg w d=>?_);refine gc (zbX m k l h0 h1 hl) ?_;refine gd ?_ ?_<;>intro Z
 ·apply ye;refine ya ?_;refine yC ?_;refine kQ ?_;refine kM (yd (ts:=[(6,.val (.pointer none)),(7,smsA []),(8,iv (segE m k l))]) (hs:=[])) ?_;refine kY (.many (by decide) (.cons (.tmp rfl (kO ?_)) (.cons (.tmp rfl (kO ?_)) (.cons (.tmp rfl (kO ?_)) .nil))));all_goals exact zR
 exact absurd Z hE
def za0(m:Mn)(k:Int)(l:List Ite)(h0:-9223372036854775808<=k)(h1:k<=9223372036854775807)(hl:l.length<=1000000)(hE:segE m k l=0):FnO prog 226 [mnA m,iv k,itsA l] [] [] (.tup [.ptr 36 0 0 0,smsA (segV m k l),iv 0]) [(36,.box [.own 30,iv k,iv (unT m k).N,iv (unT m k).D,.mp 34] 285),(30,.row itE l 129 12),(34,.mpb (λi:Int=>.int .i64 i) AV.bool [])]:=by
 refine bH (ts:=[(0,mnA m),(1,iv k),(2,itsA l)]) (rv:=[.tmp 6,.tmp 7,.tmp 8]) (n:=38) (cs:=[]) (by kernel_rfl) func226 rfl ntmps226 rfl rfl (by simp) rfl rfl rfl rfl (λg w d vs=>?_);refine gc (zbX m k l h0 h1 hl) ?_;refine gd ?_ ?_<;>intro Z
 ·exact absurd hE Z
 refine gc (zgC m k h0 h1) ?_;refine yW [6,7,8,29,30,31,32,33,34,35,36,37] [0,1,3,0,0,0,63,127,0,255,1023,2047] mo ?_;refine yb ?_;refine ChM.lo 30 (zac l (by omega)).ow (λ_=>rfl) ?_;iterate 3 refine yb ?_
 refine ChM.step rfl rfl rfl (zhz (k:=34) (λi:Int=>.int .i64 i) AV.bool) rfl ?_;refine yb ?_;refine ChM.step rfl rfl rfl (zfl (k:=36) rfl rfl) rfl ?_;iterate 4 refine yb ?_
 refine yI ?_;apply kW;refine kQ ?_;refine zkW.mk [(6,.ptr 36 0 0 0),(7,smsA (segV m k l)),(8,iv 0)] [] (.inr rfl) (.many (by decide) (.cons (.tmp rfl (kO ?_)) (.cons (.tmp rfl (kO ?_)) (.cons (.tmp rfl (kO ?_)) .nil))));all_goals rfl
def zdU(l:List Ite)(k:Int)(u:Tm)(L:List (Int×Bool))(i:Nat)(x:Ite)(hx:l[i]? =some x):FnO prog 294 [.ptr 2000001 12 i 0,.ptr 2000001 12 i 10,.ptr 2000003 0 0 0] [(2000003,.box [.ptr 2000000 0 0 0] 277),(2000000,.box [.own 2000001,iv k,iv u.N,iv u.D,.mp 2000002] 285),(2000001,.row itE (l) 129 12),(2000002,.mpb (λi:Int=>.int .i64 i) AV.bool (L))] [2000003,2000000,2000001,2000002] (iv (max (subE x.Dur u) (addE x.After u))) [(2000003,.box [.ptr 2000000 0 0 0] 277),(2000000,.box [.own 2000001,iv k,iv u.N,iv u.D,.mp 2000002] 285),(2000001,.row itE (l.set i (zaD u x)) 129 12),(2000002,.mpb (λi:Int=>.int .i64 i) AV.bool (L))]:=by
 have Z:=zls (y:={x with Dur:=subV x.Dur u}) hx;have U:(l.set i {x with Dur:=subV x.Dur u}).set i (zaD u x)=l.set i (zaD u x):=set2;refine bH (ts:=[(0,.ptr 2000001 12 i 0),(1,.ptr 2000001 12 i 10),(2,.ptr 2000003 0 0 0)]) (rv:=[.tmp 5]) (n:=39) (cs:=[.ptr 2000003 0 0 0,.ptr 2000000 0 0 0,.own 2000001,.mp 2000002]) (by kernel_rfl) func294 rfl ntmps294 rfl rfl (by simp) rfl rfl rfl rfl (λg w d vs=>?_);refine gq ?_;refine yW [8,9,10,11,12,13,14,15,16,17,18,19,20,21,22] [0,0,2,6,14,0,32,96,224,510,1022,2046,2046,4095,12287,28671,65535] mo ?_;iterate 2 refine yb ?_
 refine yb ?_ (hs:=by exact yi rfl);refine yb ?_;refine yb ?_ (hs:=by exact y7 (n:=2) rfl rfl hx rfl rfl (by decide) rfl TyK.h);refine yb ?_;refine yb ?_ (hs:=by exact yi rfl);iterate 2 refine yb ?_
 refine yO (zcU x.Dur u) ?_;iterate 3 refine yb ?_
 refine yb ?_ (hs:=by exact yi rfl);refine yb ?_;refine zbS 12 ⟨[(0,.ptr 2000001 12 i 0),(1,.ptr 2000001 12 i 10),(2,.ptr 2000003 0 0 0),(6,iv (subE x.Dur u)),(7,iv 0)],[(1000001,.hold vs [.ptr 2000003 0 0 0,.ptr 2000000 0 0 0,.own 2000001,.mp 2000002]),(2000003,.box [.ptr 2000000 0 0 0] 277),(2000000,.box [.own 2000001,iv k,iv u.N,iv u.D,.mp 2000002] 285),(2000001,.row itE (l.set i {x with Dur:=subV x.Dur u}) 129 12),(2000002,.mpb (λi:Int=>.int .i64 i) AV.bool (L))]⟩ (λQ V=>?_) (λQ V=>?_) ?_
 ·refine kV (hs:=y6 (n:=2) x {x with Dur:=subV x.Dur u} rfl rfl hx (λ_=>rfl) (by decide) rfl rfl rfl (by decide) rfl rfl rfl TyK.h) ?_;refine ya ?_;exact bF yg V
 ·refine kV (hs:=y6 (n:=2) x {x with Dur:=subV x.Dur u} rfl rfl hx (λ_=>rfl) (by decide) rfl rfl rfl (by decide) rfl rfl rfl TyK.h) ?_;iterate 2 refine ya ?_
  exact bF yg V
 refine gq ?_;refine yW [23,24,25,26,27,28,29,30,31,32,33,34,35] [0,0,2,6,0,16,48,112,254,510,1022,1022,2047,6143,16383] mo ?_;iterate 2 refine yb ?_
 refine yb ?_ (hs:=by exact yi rfl);refine yb ?_ (hs:=by exact y7 (n:=2) rfl rfl Z rfl rfl (by decide) rfl TyK.h);refine yb ?_;refine yb ?_ (hs:=by exact yi rfl);iterate 2 refine yb ?_
 refine yO (zbl x.After u) ?_;iterate 3 refine yb ?_
 refine yb ?_ (hs:=by exact yi rfl);refine zbS 11 ⟨[(6,iv (subE x.Dur u)),(7,iv (addE x.After u))],[(1000001,.hold vs [.ptr 2000003 0 0 0,.ptr 2000000 0 0 0,.own 2000001,.mp 2000002]),(2000003,.box [.ptr 2000000 0 0 0] 277),(2000000,.box [.own 2000001,iv k,iv u.N,iv u.D,.mp 2000002] 285),(2000001,.row itE ((l.set i {x with Dur:=subV x.Dur u}).set i (zaD u x)) 129 12),(2000002,.mpb (λi:Int=>.int .i64 i) AV.bool (L))]⟩ (λQ V=>?_) (λQ V=>?_) ?_
 ·refine kV (hs:=y6 (n:=2) {x with Dur:=subV x.Dur u} (zaD u x) rfl rfl Z (λ_=>rfl) (by decide) rfl rfl rfl (by decide) rfl rfl rfl TyK.h) ?_;refine ya ?_;exact bF yg V
 ·refine kV (hs:=y6 (n:=2) {x with Dur:=subV x.Dur u} (zaD u x) rfl rfl Z (λ_=>rfl) (by decide) rfl rfl rfl (by decide) rfl rfl rfl TyK.h) ?_;iterate 2 refine ya ?_
  exact bF yg V
 apply yE;iterate 2 refine ya ?_
 refine ya (hs:=by exact zpz rfl rfl) ?_;refine yj ?_;refine kQ ?_;refine zc9 (st':=⟨[(5,iv (max (subE x.Dur u) (addE x.After u)))],[(1000001,.hold vs [.ptr 2000003 0 0 0,.ptr 2000000 0 0 0,.own 2000001,.mp 2000002]),(2000003,.box [.ptr 2000000 0 0 0] 277),(2000000,.box [.own 2000001,iv k,iv u.N,iv u.D,.mp 2000002] 285),(2000001,.row itE (l.set i (zaD u x)) 129 12),(2000002,.mpb (λi:Int=>.int .i64 i) AV.bool (L))]⟩) (by first|exact yd|exact yg) ?_;refine zkW.mk [(5,iv (max (subE x.Dur u) (addE x.After u)))] [] (.inr rfl) (.one (.tmp rfl (kO ?_)));all_goals rfl
def zdV(l:List Ite)(k:Int)(u:Tm)(L:List (Int×Bool))(i:Nat)(x:Ite)(hx:l[i]? =some x):FnO prog 294 [.ptr 2000001 12 i 0,.ptr 2000001 12 i 8,.ptr 2000003 0 0 0] [(2000003,.box [.ptr 2000000 0 0 0] 277),(2000000,.box [.own 2000001,iv k,iv u.N,iv u.D,.mp 2000002] 285),(2000001,.row itE (l) 129 12),(2000002,.mpb (λi:Int=>.int .i64 i) AV.bool (L))] [2000003,2000000,2000001,2000002] (iv (max (subE x.Dur u) (addE x.Before u))) [(2000003,.box [.ptr 2000000 0 0 0] 277),(2000000,.box [.own 2000001,iv k,iv u.N,iv u.D,.mp 2000002] 285),(2000001,.row itE (l.set i (zaI u x)) 129 12),(2000002,.mpb (λi:Int=>.int .i64 i) AV.bool (L))]:=by
 have Z:=zls (y:={x with Dur:=subV x.Dur u}) hx;have U:(l.set i {x with Dur:=subV x.Dur u}).set i (zaI u x)=l.set i (zaI u x):=set2;refine bH (ts:=[(0,.ptr 2000001 12 i 0),(1,.ptr 2000001 12 i 8),(2,.ptr 2000003 0 0 0)]) (rv:=[.tmp 5]) (n:=39) (cs:=[.ptr 2000003 0 0 0,.ptr 2000000 0 0 0,.own 2000001,.mp 2000002]) (by kernel_rfl) func294 rfl ntmps294 rfl rfl (by simp) rfl rfl rfl rfl (λg w d vs=>?_);refine gq ?_;refine yW [8,9,10,11,12,13,14,15,16,17,18,19,20,21,22] [0,0,2,6,14,0,32,96,224,510,1022,2046,2046,4095,12287,28671,65535] mo ?_;iterate 2 refine yb ?_
 refine yb ?_ (hs:=by exact yi rfl);refine yb ?_;refine yb ?_ (hs:=by exact y7 (n:=2) rfl rfl hx rfl rfl (by decide) rfl TyK.h);refine yb ?_;refine yb ?_ (hs:=by exact yi rfl);iterate 2 refine yb ?_
 refine yO (zcU x.Dur u) ?_;iterate 3 refine yb ?_
 refine yb ?_ (hs:=by exact yi rfl);refine yb ?_;refine zbS 12 ⟨[(0,.ptr 2000001 12 i 0),(1,.ptr 2000001 12 i 8),(2,.ptr 2000003 0 0 0),(6,iv (subE x.Dur u)),(7,iv 0)],[(1000001,.hold vs [.ptr 2000003 0 0 0,.ptr 2000000 0 0 0,.own 2000001,.mp 2000002]),(2000003,.box [.ptr 2000000 0 0 0] 277),(2000000,.box [.own 2000001,iv k,iv u.N,iv u.D,.mp 2000002] 285),(2000001,.row itE (l.set i {x with Dur:=subV x.Dur u}) 129 12),(2000002,.mpb (λi:Int=>.int .i64 i) AV.bool (L))]⟩ (λQ V=>?_) (λQ V=>?_) ?_
 ·refine kV (hs:=y6 (n:=2) x {x with Dur:=subV x.Dur u} rfl rfl hx (λ_=>rfl) (by decide) rfl rfl rfl (by decide) rfl rfl rfl TyK.h) ?_;refine ya ?_;exact bF yg V
 ·refine kV (hs:=y6 (n:=2) x {x with Dur:=subV x.Dur u} rfl rfl hx (λ_=>rfl) (by decide) rfl rfl rfl (by decide) rfl rfl rfl TyK.h) ?_;iterate 2 refine ya ?_
  exact bF yg V
 refine gq ?_;refine yW [23,24,25,26,27,28,29,30,31,32,33,34,35] [0,0,2,6,0,16,48,112,254,510,1022,1022,2047,6143,16383] mo ?_;iterate 2 refine yb ?_
 refine yb ?_ (hs:=by exact yi rfl);refine yb ?_ (hs:=by exact y7 (n:=2) rfl rfl Z rfl rfl (by decide) rfl TyK.h);refine yb ?_;refine yb ?_ (hs:=by exact yi rfl);iterate 2 refine yb ?_
 refine yO (zbl x.Before u) ?_;iterate 3 refine yb ?_
 refine yb ?_ (hs:=by exact yi rfl);refine zbS 11 ⟨[(6,iv (subE x.Dur u)),(7,iv (addE x.Before u))],[(1000001,.hold vs [.ptr 2000003 0 0 0,.ptr 2000000 0 0 0,.own 2000001,.mp 2000002]),(2000003,.box [.ptr 2000000 0 0 0] 277),(2000000,.box [.own 2000001,iv k,iv u.N,iv u.D,.mp 2000002] 285),(2000001,.row itE ((l.set i {x with Dur:=subV x.Dur u}).set i (zaI u x)) 129 12),(2000002,.mpb (λi:Int=>.int .i64 i) AV.bool (L))]⟩ (λQ V=>?_) (λQ V=>?_) ?_
 ·refine kV (hs:=y6 (n:=2) {x with Dur:=subV x.Dur u} (zaI u x) rfl rfl Z (λ_=>rfl) (by decide) rfl rfl rfl (by decide) rfl rfl rfl TyK.h) ?_;refine ya ?_;exact bF yg V
 ·refine kV (hs:=y6 (n:=2) {x with Dur:=subV x.Dur u} (zaI u x) rfl rfl Z (λ_=>rfl) (by decide) rfl rfl rfl (by decide) rfl rfl rfl TyK.h) ?_;iterate 2 refine ya ?_
  exact bF yg V
 apply yE;iterate 2 refine ya ?_
 refine ya (hs:=by exact zpz rfl rfl) ?_;refine yj ?_;refine kQ ?_;refine zc9 (st':=⟨[(5,iv (max (subE x.Dur u) (addE x.Before u)))],[(1000001,.hold vs [.ptr 2000003 0 0 0,.ptr 2000000 0 0 0,.own 2000001,.mp 2000002]),(2000003,.box [.ptr 2000000 0 0 0] 277),(2000000,.box [.own 2000001,iv k,iv u.N,iv u.D,.mp 2000002] 285),(2000001,.row itE (l.set i (zaI u x)) 129 12),(2000002,.mpb (λi:Int=>.int .i64 i) AV.bool (L))]⟩) (by first|exact yd|exact yg) ?_;refine zkW.mk [(5,iv (max (subE x.Dur u) (addE x.Before u)))] [] (.inr rfl) (.one (.tmp rfl (kO ?_)));all_goals rfl
end
end Go.Rse
