/-
  Walks.
-/
import Derived.Test.YtbopkhoalndflaaGreatDoorYJLvl4
set_option linter.all false
namespace Go.Rse
open Go Go.Proofs Go.Proofs.Tryz
section
attribute [local irreducible] Pur yA yC Ex X Fn Imp LeV LeB FnO It yH FnW FnOW
def zp8(l:List Ite):(lasL l).length<=l.length:=by
 have h:=zhX l;unfold lasL;cases Z:(fsL l).getLast? with
 |none=>simp
 |some a=>
  simp only[wH,jX];have:=wS (λt=>decide (subE a t=0)) (fsL l).dropLast;rw[List.length_dropLast]at this;have:(fsL l)≠[]:=λe=>by rw[e]at Z;simp at Z
  have:=uS.2 this;omega
def zdn{l:List Ite}{i:Int}(h0:0<=i)(h:i<l.length):l[i.toNat]? =some (itg l i):=by
 unfold itg;rw[j8,lgg (by omega)];rfl
def zvX{k:Int}{l:List Ite}{h:Int}(Z:(itg l h).Value=k)(V:h+1<l.length)(N:(itg l h).Cut<=0)(U:(itg l (h+1)).Color=false)(T:(itg l (h+1)).Value=k):blQ k l h=true:=by
 unfold blQ;rw[jJ Z,jJ V,jC (show¬0<(itg l h).Cut by omega),U,jJ T];rfl
def zvY{k:Int}{l:List Ite}{h:Int}(Z:(¬(itg l h).Value=k\/(l.length:Int)<=h+1)\/0<(itg l h).Cut):blQ k l h=false:=by
 unfold blQ;rcases Z with(Z|Z)|Z
 ·rw[jC Z];rfl
 ·rw[jC (show¬h+1<(l.length:Int)by omega)];simp
 ·rw[jJ Z];simp
def zvZ{k:Int}{l:List Ite}{h:Int}(Z:(itg l (h+1)).Color=true\/¬(itg l (h+1)).Value=k):blQ k l h=false:=by
 unfold blQ;rcases Z with Z|Z
 ·rw[Z];simp
 ·rw[jC Z];simp
def zx0{s:Sgm}(h:s.From=s.To\/s.Free=true):(decide (s.From=s.To)||s.Free)=true:=by
 rcases h with h|h
 ·rw[jJ h];rfl
 ·rw[h];simp
def zx1{s:Sgm}(h:¬s.From=s.To/\s.Free=false):(decide (s.From=s.To)||s.Free)=false:=by
 rw[jC h.1,h.2];rfl
def tbL(f w p a t:Bool):List (List Bool):=[[true,f,f],[false,w&&p,false],[false,!f&&a,false],[false,false,!f&&p&&a],[false,false,!f&&t]]
def tbV(f w p a t:Bool)(k:Nat)(r:Nat):Bool:=((tbL f w p a t).getD k []).getD r false
abbrev tbA(f w p a t:Bool):List AV:=[.bool true,.bool f,.bool f,.bool false,.bool (w&&p),.bool false,.bool false,.bool (!f&&a),.bool false,.bool false,.bool false,.bool (!f&&p&&a),.bool false,.bool false,.bool (!f&&t)]
def zv0(f w p a t:Bool){k:Nat}(h:k<5):((tbA f w p a t).drop ((k:Int).toNat*3)).take 3=[.bool (tbV f w p a t k 0),.bool (tbV f w p a t k 1),.bool (tbV f w p a t k 2)]:=by
 have:k=0\/k=1\/k=2\/k=3\/k=4:=by omega
 rcases this with rfl|rfl|rfl|rfl|rfl<;>rfl
def zx2(f w p a t:Bool){k:Nat}(h:k<5){r:Int}(h0:0<=r)(U:r<3):([.bool (tbV f w p a t k 0),.bool (tbV f w p a t k 1),.bool (tbV f w p a t k 2)]:List AV)[0*0+(0+r.toNat*1)]? =some (.bool (tbV f w p a t k r.toNat)):=by
 have Z:k=0\/k=1\/k=2\/k=3\/k=4:=by omega
 have V:r=0\/r=1\/r=2:=by omega
 rcases Z with rfl|rfl|rfl|rfl|rfl<;>rcases V with rfl|rfl|rfl<;>rfl
def alP(f w p a t:Bool)(r:Nat):Nat->List Int
 |0=>[]
 |k+1=>alP f w p a t r k++if tbV f w p a t k r=true\/(k=0/\f=true)then[(k:Int)]else[]
def zx3{f w p a t:Bool}{r n:Nat}(h:tbV f w p a t n r=true\/((n:Int)=0/\f=true)):alP f w p a t r n++[(n:Int)]=alP f w p a t r (n+1):=by
 show _=_++_;rw[j3 (by rcases h with h|⟨h,Z⟩;exact .inl h;exact .inr ⟨by omega,Z⟩)]
def zx4{f w p a t:Bool}{r n:Nat}(h:tbV f w p a t n r=false/\(¬(n:Int)=0\/f=false)):alP f w p a t r n=alP f w p a t r (n+1):=by
 show _=_++_;rw[j4 (λZ=>by rcases Z with Z|⟨Z,U⟩;(rw[h.1]at Z;cases Z);(rcases h.2 with V|V;(exact V (by omega));(rw[V]at U;cases U))),wC]
def znR(f w p a t:Bool)(r:Nat):∀k,(alP f w p a t r k).length<=k
 |0=>jD _
 |k+1=>by
  have:=znR f w p a t r k;rw[show alP f w p a t r (k+1)=alP f w p a t r k++(if tbV f w p a t k r=true\/(k=0/\f=true)then[(k:Int)]else[])from rfl,jE];split<;>simp<;>omega
def zsn(p a t:Bool){s:Sgm}:alP s.Free (decide (s.Count.D=1)) p a t (s.Count.N%3).toNat 5=alR p a t s:=by
 have Z:=uH s.Count.N (show(3:Int)≠0 by omega);have V:=wW s.Count.N (show(0:Int)<3 by omega);unfold alR;generalize s.Count.N%3=r at*
 have hr:r=0\/r=1\/r=2:=by omega
 have U:∀w:Bool,w=decide (s.Count.D=1)->(s.Count.D=1↔w=true):=λw e=>by rw[e];simp
 have:=U _ rfl;generalize decide (s.Count.D=1)=w at*
 simp only[this];generalize s.Free=f at*
 rcases hr with rfl|rfl|rfl<;>cases f<;>cases w<;>cases p<;>cases a<;>cases t<;>rfl
def zp9:mpOk prog 333 3 4:=⟨by kernel_rfl,_,Tryz.underlying3⟩
def znS:∃d,prog.underlying 3=some (.int d)/\d=.i64:=⟨_,Tryz.underlying3,rfl⟩
def zqa{P:Program}{T:TypeId}(h:(P.info? T).bind (·.zero)=some (.bool false)):∃z i,P.info? T=some i/\i.zero=some z/\∀I,RV I noNames (.bool false) z:=by
 cases hi:P.info? T with
 |none=>simp[hi]at h
 |some i=>exact⟨.bool false,i,rfl,by simpa[hi]using h,λI=>.bool _⟩
def zqb:∃z i,prog.info? 4=some i/\i.zero=some z/\∀I,RV I noNames (AV.bool false) z:=zqa ze4
attribute [local irreducible] fsL fsP fsA lasL laP cmpV addV addE subV subE drL
set_option maxHeartbeats 2000000 in
def zdy(l:List Ite)(k:Int)(u:Tm)(b:Nat)(L:List (Int×Bool))(s:Sgm)(hs:SgB l.length s)(hl:l.length<=1000000):FnW prog 353 [.ept (λ_:Unit=>[.sl itE l,iv k,iv u.N,iv u.D,.val (.map (some b))]) () 0,smA s] (.bool (poQ u k l L s)) (zjl b (λi:Int=>.int .i64 i) AV.bool L):=by
 have f0:=hs.f0;have ft:=hs.ft;have tn:=hs.tn;have lf:=hs.lf;have Z:(itR l s).length<=1000000:=by unfold itR;simp;omega
 have J:=zhX (itR l s);refine FnW.go func353 ntmps353 (λg w d I V=>?_);refine gd ?_ ?_<;>intro U
 ·have hE:poQ u k l L s=false:=by unfold poQ;rw[jJ U];rfl
  refine gq ?_;all_goals rw[hE]
 have hx:=zdn (l:=l) (i:=s.Left) (by omega) lf;have hE:poQ u k l L s=((decide ((itg l s.Left).Value<k)||!(mget s.Left L).getD false)&&lgQ u (itg l s.Left)&&rcQ u (fsL (itR l s)) (itg l s.Left).After):=by unfold poQ;rw[jC (show¬s.Left<0 by omega)];rfl
 refine gq ?_;refine yW [5,9,10,11,12,13,14,15,16,17] [0,1,3,7,15,0,32,127,255,0,1023] mo ?_;iterate 9 refine yb ?_
 refine ChM.step rfl rfl rfl (zx (k:=5) zgZ) rfl ?_;refine yF ?_;refine gq ?_;refine yW [4,18,19,20,21,22,23,24,25,26,27,28,29,30,31,32,33,34,35,36,37,38,39,40,41,42,43,44,45,46,47,48,49,50,51,52,53,54,55,56] [0,1,0,4,12,28,63,127,255,511,1023,2047,255,4351,16383,32767,65535,131071,262143,262143,1048575,2097151,4194303,8388607,8388607,25165823,58720255,125829119,260046847,8388607,545259519,8388607,2155872255,8581545983,17171480575,8388607,34368126975,137438953471,274877906943,549755813887] mo ?_;iterate 8 refine yb ?_
 iterate 6 refine kM ?_
 refine kM ?_ (hs:=by intro T;exact zph false I V zp9 znS zqb);refine kM ?_;iterate 2 refine yb ?_
 iterate 2 refine kM ?_
 refine kZ (zbd l k u b (itg l s.Left)) ?_;iterate 2 refine yb ?_
 iterate 10 refine kM ?_
 refine kM ?_ (hs:=by intro T;exact zdk rfl rfl rfl zhB zkl (λ_=>rfl) (by omega) (by omega) (by omega));refine kZ (zfz (itR l s) Z) ?_;iterate 2 refine kM ?_
 refine kZ (zaZ l k u b (fsL (itR l s)) (itg l s.Left).After (by omega)) ?_;iterate 2 refine yb ?_
 refine yF ?_;refine gq ?_;all_goals rw[hE]
set_option maxHeartbeats 2000000 in
def zdz(l:List Ite)(k:Int)(u:Tm)(b:Nat)(s:Sgm)(hs:SgB l.length s)(hl:l.length<=1000000):Fn prog 354 [.ept (λ_:Unit=>[.sl itE l,iv k,iv u.N,iv u.D,.val (.map (some b))]) () 0,smA s] (.bool (anQ u k l s)):=by
 have f0:=hs.f0;have ft:=hs.ft;have tn:=hs.tn;have rt:=hs.rt;have V:(itR l s).length<=1000000:=by unfold itR;simp;omega
 have xT:=zp8 (itR l s);refine kF func354 ntmps354 (λg w d=>?_);refine gd ?_ ?_<;>intro J
 ·have hE:anQ u k l s=false:=by unfold anQ;rw[jJ J];rfl
  refine gq ?_;all_goals rw[hE]
 have hx:=zdn (l:=l) (i:=s.Right) (by omega) rt;refine gq ?_;refine yW [5,10,11,12,13,14,15,16,17,18] [0,1,3,7,15,0,32,127,255,0,1023] mo ?_;iterate 9 refine yb ?_
 refine ChM.step rfl rfl rfl (zx (k:=5) zgZ) rfl ?_;refine yF ?_;refine gq ?_;refine yW [19,20,21,22,23,24,25,26,27,28,29,30,31,32,33,34,35,36,37,38,39,40,41,42,43] [0,1,0,4,12,28,63,127,255,511,1023,255,2303,6399,14591,30975,63743,131071,262143,524287,1048575,2097151,4194303,8388607,16777215] mo ?_;iterate 8 refine yb ?_
 iterate 10 refine kM ?_
 iterate 2 refine yb ?_
 iterate 4 refine kM ?_
 refine yb ?_;refine yF ?_;refine gd ?_ ?_<;>intro U
 ·obtain⟨⟨I,H⟩,G⟩:=U;have x4:=zdn (l:=l) (i:=s.Right+1) (by omega) (by omega);apply yf;refine yW [6,44,45,46,47,48,49,50,51,52,53] [0,1,3,7,15,0,32,96,255,511,0,2047] mo ?_;iterate 10 refine yb ?_
  refine ChM.step rfl rfl rfl (zx (k:=6) zgZ) rfl ?_;refine yF ?_;refine gq ?_;refine yW [54,55,56,57,58,59,60,61,62,63,64,65] [0,1,3,7,15,31,15,79,207,463,1023,2047] mo ?_;iterate 4 refine yb ?_
  iterate 7 refine kM ?_
  refine yb ?_;refine yF ?_;refine gd ?_ ?_<;>intro Z
  ·have T:blQ k l s.Right=true:=zvX I H G Z.1 Z.2;have hE:anQ u k l s=false:=by unfold anQ;rw[T,jC (show¬s.Right<0 by omega)];rfl
   refine gq ?_;all_goals rw[hE]
  have T:blQ k l s.Right=false:=zvZ Z;have hE:anQ u k l s=(lgQ u (itg l s.Right)&&rcQ u (lasL (itR l s)) (itg l s.Right).Before):=by unfold anQ;rw[jC (show¬s.Right<0 by omega),T];rfl
  refine gq ?_;refine yW [4,66,67,68,69,70,71,72,73,74,75,76,77,78,79,80,81,82,83,84,85] [0,0,3,7,15,15,47,111,239,495,15,1039,15,4111,16367,32751,15,65551,262143,524287,1048575] mo ?_;iterate 2 refine yb ?_
  refine yL (zbd l k u b (itg l s.Right)) ?_;refine yb ?_;iterate 10 refine kM ?_
  refine kM ?_ (hs:=by intro E;exact zdk rfl rfl rfl zhB zkl (λ_=>rfl) (by omega) (by omega) (by omega));refine kZ (zgs (itR l s) V) ?_;iterate 2 refine kM ?_
  refine kZ (zaZ l k u b (lasL (itR l s)) (itg l s.Right).Before (by omega)) ?_;iterate 2 refine yb ?_
  refine yF ?_;refine gq ?_;all_goals rw[hE]
 ·have T:blQ k l s.Right=false:=zvY U;have hE:anQ u k l s=(lgQ u (itg l s.Right)&&rcQ u (lasL (itR l s)) (itg l s.Right).Before):=by unfold anQ;rw[jC (show¬s.Right<0 by omega),T];rfl
  refine gq ?_;refine yW [4,66,67,68,69,70,71,72,73,74,75,76,77,78,79,80,81,82,83,84,85] [0,0,3,7,15,15,47,111,239,495,15,1039,15,4111,16367,32751,15,65551,262143,524287,1048575] mo ?_;iterate 2 refine yb ?_
  refine yL (zbd l k u b (itg l s.Right)) ?_;refine yb ?_;iterate 10 refine kM ?_
  refine kM ?_ (hs:=by intro E;exact zdk rfl rfl rfl zhB zkl (λ_=>rfl) (by omega) (by omega) (by omega));refine kZ (zgs (itR l s) V) ?_;iterate 2 refine kM ?_
  refine kZ (zaZ l k u b (lasL (itR l s)) (itg l s.Right).Before (by omega)) ?_;iterate 2 refine yb ?_
  refine yF ?_;refine gq ?_;all_goals rw[hE]
set_option maxHeartbeats 2000000 in
def zgt(l:List Ite)(k:Int)(u:Tm)(b:Nat)(s:Sgm)(hs:SgB l.length s)(hl:l.length<=1000000)(k0:-9223372036854775808<=k)(k1:k+1<=9223372036854775807):Fn prog 355 [.ept (λ_:Unit=>[.sl itE l,iv k,iv u.N,iv u.D,.val (.map (some b))]) () 0,smA s] (.bool (atQ u k l s)):=by
 have f0:=hs.f0;have ft:=hs.ft;have tn:=hs.tn;have rt:=hs.rt;refine kF func355 ntmps355 (λg w d=>?_);apply ye;refine zH ?_;refine yh ?_;apply yf;apply ye;iterate 5 refine ya ?_
 refine kI 5 ?_;refine yp ?_;iterate 2 refine kG ?_
 refine gf ?_ ?_<;>intro Z
 ·have hE:atQ u k l s=false:=by unfold atQ;rw[zx0 Z];rfl
  refine gq ?_;all_goals(first|exact zE hE|(rw[hE];unfold ntQ;rfl))
 have hx:=zdn (l:=l) (i:=s.To-1) (by omega) (by omega);have hE:atQ u k l s=(ntQ u k (itg l (s.To-1))&&(decide (s.Right<0)||decide ((itg l s.Right).Before.N=0))):=by unfold atQ;rw[zx1 Z];rfl
 refine gq ?_;refine yW [5,16,17,18,19,20,21,22,23,24,25] [0,1,3,7,15,0,32,96,255,511,0,2047] mo ?_;iterate 10 refine yb ?_
 refine ChM.step rfl rfl rfl (zx (k:=5) zgZ) rfl ?_;refine yF ?_;refine gq ?_;refine yW [6,26,27,28,29,30,31,32,33,34,35,36,37,38,39,40,41,42,43,44,45,46,47,48,49,50,51,52,53,54,55,56,57] [0,1,3,7,15,31,63,127,255,511,1023,2047,4095,8191,16383,32767,16383,81919,212991,475135,999423,2097151,4194303,8388607,16777215,33554431,16777215,83886079,218103807,486539263,1073741823,2147483647,4294967295] mo ?_;iterate 4 refine yb ?_
 iterate 3 refine kM ?_
 iterate 2 refine yb ?_
 iterate 3 refine kM ?_
 iterate 2 refine yb ?_
 iterate 8 refine kM ?_
 iterate 2 refine yb ?_
 iterate 7 refine kM ?_
 iterate 2 refine yb ?_
 refine yF ?_;refine gq ?_;refine yW [4,58,59,60,61,62,63,64,65,66,67,68,69,70,71,72,73,74,75,76,77] [0,1,3,7,15,31,63,127,255,511,1023,63,2111,8191,16383,32767,65535,131071,262143,524287,1048575] mo ?_;iterate 2 refine yb ?_
 iterate 17 refine kM ?_
 iterate 2 refine yb ?_
 refine yF ?_;refine gq ?_;all_goals(first|exact zE hE|(rw[hE];unfold ntQ;rfl))
set_option maxHeartbeats 4000000 in
def za0(l:List Ite)(k:Int)(u:Tm)(b:Nat)(L:List (Int×Bool))(s:Sgm)(hs:SgB l.length s)(hl:l.length<=1000000)(k0:-9223372036854775808<=k)(k1:k+1<=9223372036854775807)(hN:0<=s.Count.N):FnOW prog 330 [.ept (λ_:Unit=>[.sl itE l,iv k,iv u.N,iv u.D,.val (.map (some b))]) () 0,smA s] intE (alQ u k l L s) 3 1 (zjl b (λi:Int=>.int .i64 i) AV.bool L):=by
 have J:=uH s.Count.N (show(3:Int)≠0 by omega);have H:=wW s.Count.N (show(0:Int)<3 by omega);refine FnOW.go func330 ntmps330 (rv:=[.tmp 4]) (λg w d hH G=>?_);have V:∀st g' a w',Rel (C0 86 d g w) st g' a w'->zjl b (λi:Int=>.int .i64 i) AV.bool L g'.I g'.O w':=λst g' a w' hr=>hH.now rfl G hr
 refine gq ?_;refine yW [7,19,20,21,22,23,24,25,26,27,28,29,30,31,32,33,34,35,36,37,38,39,40,41,42,43,44,45,46,47,48,49,50,51,52,53,54,55,56,57,58,59,60,61,62,63] [0,1,0,4,15,0,32,96,96,480,992,2016,0,4096,12288,29664,62432,62432,259040,521184,1045472,0,2097152,6291456,15201248,31978464,31978464,132641760,266859488,535294944,1072165856,1072165856,4293391328,8588358624,17178293216,0,34359738368,103079215104,249106527200,523984434144,523984434144,2173251875808,4372275131360,8770321642464,17592186044415,0,70368744177663] mo ?_;iterate 7 refine yb ?_
 iterate 2 refine kM ?_
 refine ChM.lg (x:=.bool (poQ u k l L s)) V (zdy l k u b L s hs hl) ?_;iterate 6 refine yb ?_
 iterate 2 refine kM ?_
 refine kZ (zdz l k u b s hs hl) ?_;iterate 6 refine yb ?_
 iterate 2 refine kM ?_
 refine ChM.lg (x:=.bool (poQ u k l L s)) V (zdy l k u b L s hs hl) ?_;iterate 2 refine yb ?_
 iterate 2 refine kM ?_
 refine kZ (zdz l k u b s hs hl) ?_;iterate 6 refine yb ?_
 iterate 2 refine kM ?_
 refine kZ (zgt l k u b s hs hl k0 k1) ?_;iterate 3 refine yb ?_
 refine ChM.step rfl rfl rfl (zx (k:=7) zvn) rfl ?_;refine yF ?_;refine kK ?_;apply yG;refine yh ?_;iterate 2 apply yf
 refine kJ (yI intE 3 1 8 5 rfl rfl) ?_;apply yj;refine yO ?_;apply kB;refine zu (λn=>[(3,.ptr 3 0 0 0),(6,iv (s.Count.N%3)),(8,.own 5),(64,.agg (tbA s.Free (decide (s.Count.D=1)) (poQ u k l L s) (anQ u k l s) (atQ u k l s))),(65,iv (n:Int))]) (λn=>[(3,.box (smE s) 317),(5,.row intE (alP s.Free (decide (s.Count.D=1)) (poQ u k l L s) (anQ u k l s) (atQ u k l s) (s.Count.N%3).toNat n) 3 1)]) 5 (λn hk=>?_) (h0:=yd);refine gd ?_ ?_<;>intro x4
 ·have U:n<5:=by omega
  have E:=zv0 s.Free (decide (s.Count.D=1)) (poQ u k l L s) (anQ u k l s) (atQ u k l s) U;have Z:=zx2 s.Free (decide (s.Count.D=1)) (poQ u k l L s) (anQ u k l s) (atQ u k l s) U J H;have x3:=znR s.Free (decide (s.Count.D=1)) (poQ u k l L s) (anQ u k l s) (atQ u k l s) (s.Count.N%3).toNat n;apply yk;apply yf;apply kB;apply ye;refine ya ?_;refine ya (hs:=by exact zF ArK.h TyK.h rfl rfl (by omega) (by omega) E) ?_;refine zk ?_;refine ya ?_;refine kK ?_;apply yG;refine ya ?_;refine ya (hs:=by exact zhy rfl rfl ArK.h ty4 (by omega) (by omega)) ?_;refine ya (hs:=by exact zai rfl rfl Z ty4) ?_;refine kI 3 ?_;refine yp ?_;iterate 6 refine kG ?_
  refine gf ?_ ?_<;>intro T
  ·have xT:=zx3 (r:=(s.Count.N%3).toNat) T;refine gq ?_;refine yD intE [_] ?_;refine gq ?_;refine yz (n+1)
  ·have xT:=zx4 (r:=(s.Count.N%3).toNat) T;refine gq ?_;refine yz (n+1)
 ·have hn:n=5:=by omega
  subst hn;have he:alP s.Free (decide (s.Count.D=1)) (poQ u k l L s) (anQ u k l s) (atQ u k l s) (s.Count.N%3).toNat 5=alQ u k l L s:=zsn _ _ _;apply kO;apply ye;refine yO ?_;refine kE ?_;refine⟨.inr rfl,[(4,.own 5)],[],yd,.one (.tmp rfl (kC rfl))⟩
end
section
section
variable{P:Program}{C:Ctx}{st:St}{ty:TypeId}{Q:Exit->St->Prop}{ops:Array Oper}{ms:List Nat}{hid:List Nat}{i m:Nat}{fs:List FactM}{o:Oper}{x:AV}{nb:Option (Nat×Blk)}
def ChM.lo{d:Nat}{α:Type}{enc:α->List AV}{l:List α}{E s:Nat}{f:FuncId}{caps xs:List AV}{fop:Operand}{args:Array Operand}{ts:Array TypeId}(q:Nat)(T:FnOW P f (xs++caps) enc l E s λ_ _ _=>True)(V:∀x,AV.flat.flatL (enc x)=true)(h:ChM P C ops ms st hid Q (i+1) (⟨i,some d,.own q,some (q,.row enc l E s),m,[]⟩::fs))(hm:ms[i]? =some m:=by exact rfl)(ho:ops[i]? =some o:=by exact rfl)(N:o.guard=none:=by exact rfl)(Z:o.dst=some d:=by exact rfl)
 (U:o.op=.call {callee:=.value fop,args:=args,argTypes:=ts}:=by exact rfl)(hf:ev (stV st hid m fs []) fop=some (.fn f caps):=by exact rfl)(hx:evs (stV st hid m fs []) args.toList=some xs:=by exact rfl)(J:d.blt C.n=true:=by exact rfl):ChM P C ops ms st hid Q i fs:=
 .step hm ho N (by rw[U];exact A_lendO (ι:=Unit) (stF:=λ_=>stV st hid m fs []) (caps:=λ_=>caps) (xs:=λ_=>xs) q (λg a w hr=>zmz Imp.refl hr) (λ_=>T) V (λ_=>hf) (λ_=>hx) (λ_=>kS _)) (by rw[Z];exact J) (by rw[Z];exact h)
end
instance:ZcK prog 335 [.nils,.int .i64 0,.int .i64 0,.int .i64 0,.val (.map none)]:=⟨⟨_,zAp,rfl⟩⟩
attribute [local irreducible] Pur yA yC Ex X Fn Imp LeV LeB FnO It yH FnW FnOW
def set2{l:List Ite}{i:Nat}{x y:Ite}:(l.set i x).set i y=l.set i y:=by rw[List.set_set]
def zkI{l:List Ite}{i:Nat}{x y:Ite}(h:l[i]? =some x):(l.set i y)[i]? =some y:=by
 have:=(j1.1 h).1;rw[vN];simp[this]
attribute [local irreducible] addV addE subV subE
def zg7(m:Mn)(k:Int)(l:List Ite)(h0:-9223372036854775808<=k)(V:k<=9223372036854775807)(hl:l.length<=1000000)(hE:¬segE m k l=0):Fn prog 300 [mnA m,iv k,itsA l] (.tup [.val (.pointer none),smsA [],iv (segE m k l)]):=by
 refine kF func300 ntmps300 (λg w d=>?_);refine gc (zbT m k l h0 V hl) ?_;refine gd ?_ ?_<;>intro Z
 ·apply ye;refine ya ?_;refine yE ?_;refine kE ?_;refine kA (yd (ts:=[(6,.val (.pointer none)),(7,smsA []),(8,iv (segE m k l))]) (hs:=[])) ?_;refine kL (.many (by decide) (.cons (.tmp rfl (kC ?_)) (.cons (.tmp rfl (kC ?_)) (.cons (.tmp rfl (kC ?_)) .nil))));all_goals exact zR
 exact absurd Z hE
def zaT(m:Mn)(k:Int)(l:List Ite)(h0:-9223372036854775808<=k)(V:k<=9223372036854775807)(hl:l.length<=1000000)(hE:segE m k l=0):FnO prog 300 [mnA m,iv k,itsA l] [] [] (.tup [.ptr 36 0 0 0,smsA (segV m k l),iv 0]) [(36,.box [.own 30,iv k,iv (unT m k).N,iv (unT m k).D,.mp 34] 335),(30,.row itE l 183 12),(34,.mpb (λi:Int=>.int .i64 i) AV.bool [])]:=by
 refine kX (ts:=[(0,mnA m),(1,iv k),(2,itsA l)]) (rv:=[.tmp 6,.tmp 7,.tmp 8]) (n:=38) (cs:=[]) (by kernel_rfl) func300 rfl ntmps300 rfl rfl (by simp) rfl rfl rfl rfl (λg w d vs=>?_);refine gc (zbT m k l h0 V hl) ?_;refine gd ?_ ?_<;>intro Z
 ·exact absurd hE Z
 refine gc (zgo m k h0 V) ?_;refine yW [6,7,8,29,30,31,32,33,34,35,36,37] [0,1,3,0,0,0,63,127,0,255,1023,2047] mo ?_;refine yb ?_;refine ChM.lo 30 (z8 l (by omega)).ow (λ_=>rfl) ?_;iterate 3 refine yb ?_
 refine ChM.step rfl rfl rfl (zhl (k:=34) (λi:Int=>.int .i64 i) AV.bool) rfl ?_;refine yb ?_;refine ChM.step rfl rfl rfl (zfg (k:=36) rfl rfl) rfl ?_;iterate 4 refine yb ?_
 refine yF ?_;apply kQ;refine kE ?_;refine zkj.mk [(6,.ptr 36 0 0 0),(7,smsA (segV m k l)),(8,iv 0)] [] (.inr rfl) (.many (by decide) (.cons (.tmp rfl (kC ?_)) (.cons (.tmp rfl (kC ?_)) (.cons (.tmp rfl (kC ?_)) .nil))));all_goals rfl
set_option maxHeartbeats 2000000 in
def zdR(l:List Ite)(k:Int)(u:Tm)(L:List (Int×Bool))(i:Nat)(x:Ite)(hx:l[i]? =some x):FnO prog 360 [.ptr 2000001 12 i 0,.ptr 2000001 12 i 10,.ptr 2000003 0 0 0] [(2000003,.box [.ptr 2000000 0 0 0] 327),(2000000,.box [.own 2000001,iv k,iv u.N,iv u.D,.mp 2000002] 335),(2000001,.row itE (l) 183 12),(2000002,.mpb (λi:Int=>.int .i64 i) AV.bool (L))] [2000003,2000000,2000001,2000002] (iv (max (subE x.Dur u) (addE x.After u))) [(2000003,.box [.ptr 2000000 0 0 0] 327),(2000000,.box [.own 2000001,iv k,iv u.N,iv u.D,.mp 2000002] 335),(2000001,.row itE (l.set i (zay u x)) 183 12),(2000002,.mpb (λi:Int=>.int .i64 i) AV.bool (L))]:=by
 have Z:=zkI (y:={x with Dur:=subV x.Dur u}) hx;have U:(l.set i {x with Dur:=subV x.Dur u}).set i (zay u x)=l.set i (zay u x):=set2;refine kX (ts:=[(0,.ptr 2000001 12 i 0),(1,.ptr 2000001 12 i 10),(2,.ptr 2000003 0 0 0)]) (rv:=[.tmp 5]) (n:=39) (cs:=[.ptr 2000003 0 0 0,.ptr 2000000 0 0 0,.own 2000001,.mp 2000002]) (by kernel_rfl) func360 rfl ntmps360 rfl rfl (by simp) rfl rfl rfl rfl (λg w d vs=>?_);refine gq ?_;refine yW [8,9,10,11,12,13,14,15,16,17,18,19,20,21,22] [0,0,2,6,14,0,32,96,224,510,1022,2046,2046,4095,12287,28671,65535] mo ?_;iterate 2 refine yb ?_
 refine yb ?_ (hs:=by exact yg rfl);refine yb ?_;refine yb ?_ (hs:=by exact y9 (n:=2) rfl rfl hx rfl rfl (by decide) rfl TyK.h);refine yb ?_;refine yb ?_ (hs:=by exact yg rfl);iterate 2 refine yb ?_
 refine yL (zcR x.Dur u) ?_;iterate 3 refine yb ?_
 refine yb ?_ (hs:=by exact yg rfl);refine yb ?_;refine zbM 12 ⟨[(0,.ptr 2000001 12 i 0),(1,.ptr 2000001 12 i 10),(2,.ptr 2000003 0 0 0),(6,iv (subE x.Dur u)),(7,iv 0)],[(1000001,.hold vs [.ptr 2000003 0 0 0,.ptr 2000000 0 0 0,.own 2000001,.mp 2000002]),(2000003,.box [.ptr 2000000 0 0 0] 327),(2000000,.box [.own 2000001,iv k,iv u.N,iv u.D,.mp 2000002] 335),(2000001,.row itE (l.set i {x with Dur:=subV x.Dur u}) 183 12),(2000002,.mpb (λi:Int=>.int .i64 i) AV.bool (L))]⟩ (λQ V=>?_) (λQ V=>?_) ?_
 ·refine kK (hs:=y8 (n:=2) x {x with Dur:=subV x.Dur u} rfl rfl hx (λ_=>rfl) (by decide) rfl rfl rfl (by decide) rfl rfl rfl TyK.h) ?_;refine ya ?_;exact kU yi V
 ·refine kK (hs:=y8 (n:=2) x {x with Dur:=subV x.Dur u} rfl rfl hx (λ_=>rfl) (by decide) rfl rfl rfl (by decide) rfl rfl rfl TyK.h) ?_;iterate 2 refine ya ?_
  exact kU yi V
 refine gq ?_;refine yW [23,24,25,26,27,28,29,30,31,32,33,34,35] [0,0,2,6,0,16,48,112,254,510,1022,1022,2047,6143,16383] mo ?_;iterate 2 refine yb ?_
 refine yb ?_ (hs:=by exact yg rfl);refine yb ?_ (hs:=by exact y9 (n:=2) rfl rfl Z rfl rfl (by decide) rfl TyK.h);refine yb ?_;refine yb ?_ (hs:=by exact yg rfl);iterate 2 refine yb ?_
 refine yL (zbf x.After u) ?_;iterate 3 refine yb ?_
 refine yb ?_ (hs:=by exact yg rfl);refine zbM 11 ⟨[(6,iv (subE x.Dur u)),(7,iv (addE x.After u))],[(1000001,.hold vs [.ptr 2000003 0 0 0,.ptr 2000000 0 0 0,.own 2000001,.mp 2000002]),(2000003,.box [.ptr 2000000 0 0 0] 327),(2000000,.box [.own 2000001,iv k,iv u.N,iv u.D,.mp 2000002] 335),(2000001,.row itE ((l.set i {x with Dur:=subV x.Dur u}).set i (zay u x)) 183 12),(2000002,.mpb (λi:Int=>.int .i64 i) AV.bool (L))]⟩ (λQ V=>?_) (λQ V=>?_) ?_
 ·refine kK (hs:=y8 (n:=2) {x with Dur:=subV x.Dur u} (zay u x) rfl rfl Z (λ_=>rfl) (by decide) rfl rfl rfl (by decide) rfl rfl rfl TyK.h) ?_;refine ya ?_;exact kU yi V
 ·refine kK (hs:=y8 (n:=2) {x with Dur:=subV x.Dur u} (zay u x) rfl rfl Z (λ_=>rfl) (by decide) rfl rfl rfl (by decide) rfl rfl rfl TyK.h) ?_;iterate 2 refine ya ?_
  exact kU yi V
 apply yG;iterate 2 refine ya ?_
 refine ya (hs:=by exact zow rfl rfl) ?_;refine yh ?_;refine kE ?_;refine zc8 (st':=⟨[(5,iv (max (subE x.Dur u) (addE x.After u)))],[(1000001,.hold vs [.ptr 2000003 0 0 0,.ptr 2000000 0 0 0,.own 2000001,.mp 2000002]),(2000003,.box [.ptr 2000000 0 0 0] 327),(2000000,.box [.own 2000001,iv k,iv u.N,iv u.D,.mp 2000002] 335),(2000001,.row itE (l.set i (zay u x)) 183 12),(2000002,.mpb (λi:Int=>.int .i64 i) AV.bool (L))]⟩) (by first|exact yd|exact yi) ?_;refine zkj.mk [(5,iv (max (subE x.Dur u) (addE x.After u)))] [] (.inr rfl) (.one (.tmp rfl (kC ?_)));all_goals rfl
set_option maxHeartbeats 2000000 in
def zdS(l:List Ite)(k:Int)(u:Tm)(L:List (Int×Bool))(i:Nat)(x:Ite)(hx:l[i]? =some x):FnO prog 360 [.ptr 2000001 12 i 0,.ptr 2000001 12 i 8,.ptr 2000003 0 0 0] [(2000003,.box [.ptr 2000000 0 0 0] 327),(2000000,.box [.own 2000001,iv k,iv u.N,iv u.D,.mp 2000002] 335),(2000001,.row itE (l) 183 12),(2000002,.mpb (λi:Int=>.int .i64 i) AV.bool (L))] [2000003,2000000,2000001,2000002] (iv (max (subE x.Dur u) (addE x.Before u))) [(2000003,.box [.ptr 2000000 0 0 0] 327),(2000000,.box [.own 2000001,iv k,iv u.N,iv u.D,.mp 2000002] 335),(2000001,.row itE (l.set i (zaC u x)) 183 12),(2000002,.mpb (λi:Int=>.int .i64 i) AV.bool (L))]:=by
 have Z:=zkI (y:={x with Dur:=subV x.Dur u}) hx;have U:(l.set i {x with Dur:=subV x.Dur u}).set i (zaC u x)=l.set i (zaC u x):=set2;refine kX (ts:=[(0,.ptr 2000001 12 i 0),(1,.ptr 2000001 12 i 8),(2,.ptr 2000003 0 0 0)]) (rv:=[.tmp 5]) (n:=39) (cs:=[.ptr 2000003 0 0 0,.ptr 2000000 0 0 0,.own 2000001,.mp 2000002]) (by kernel_rfl) func360 rfl ntmps360 rfl rfl (by simp) rfl rfl rfl rfl (λg w d vs=>?_);refine gq ?_;refine yW [8,9,10,11,12,13,14,15,16,17,18,19,20,21,22] [0,0,2,6,14,0,32,96,224,510,1022,2046,2046,4095,12287,28671,65535] mo ?_;iterate 2 refine yb ?_
 refine yb ?_ (hs:=by exact yg rfl);refine yb ?_;refine yb ?_ (hs:=by exact y9 (n:=2) rfl rfl hx rfl rfl (by decide) rfl TyK.h);refine yb ?_;refine yb ?_ (hs:=by exact yg rfl);iterate 2 refine yb ?_
 refine yL (zcR x.Dur u) ?_;iterate 3 refine yb ?_
 refine yb ?_ (hs:=by exact yg rfl);refine yb ?_;refine zbM 12 ⟨[(0,.ptr 2000001 12 i 0),(1,.ptr 2000001 12 i 8),(2,.ptr 2000003 0 0 0),(6,iv (subE x.Dur u)),(7,iv 0)],[(1000001,.hold vs [.ptr 2000003 0 0 0,.ptr 2000000 0 0 0,.own 2000001,.mp 2000002]),(2000003,.box [.ptr 2000000 0 0 0] 327),(2000000,.box [.own 2000001,iv k,iv u.N,iv u.D,.mp 2000002] 335),(2000001,.row itE (l.set i {x with Dur:=subV x.Dur u}) 183 12),(2000002,.mpb (λi:Int=>.int .i64 i) AV.bool (L))]⟩ (λQ V=>?_) (λQ V=>?_) ?_
 ·refine kK (hs:=y8 (n:=2) x {x with Dur:=subV x.Dur u} rfl rfl hx (λ_=>rfl) (by decide) rfl rfl rfl (by decide) rfl rfl rfl TyK.h) ?_;refine ya ?_;exact kU yi V
 ·refine kK (hs:=y8 (n:=2) x {x with Dur:=subV x.Dur u} rfl rfl hx (λ_=>rfl) (by decide) rfl rfl rfl (by decide) rfl rfl rfl TyK.h) ?_;iterate 2 refine ya ?_
  exact kU yi V
 refine gq ?_;refine yW [23,24,25,26,27,28,29,30,31,32,33,34,35] [0,0,2,6,0,16,48,112,254,510,1022,1022,2047,6143,16383] mo ?_;iterate 2 refine yb ?_
 refine yb ?_ (hs:=by exact yg rfl);refine yb ?_ (hs:=by exact y9 (n:=2) rfl rfl Z rfl rfl (by decide) rfl TyK.h);refine yb ?_;refine yb ?_ (hs:=by exact yg rfl);iterate 2 refine yb ?_
 refine yL (zbf x.Before u) ?_;iterate 3 refine yb ?_
 refine yb ?_ (hs:=by exact yg rfl);refine zbM 11 ⟨[(6,iv (subE x.Dur u)),(7,iv (addE x.Before u))],[(1000001,.hold vs [.ptr 2000003 0 0 0,.ptr 2000000 0 0 0,.own 2000001,.mp 2000002]),(2000003,.box [.ptr 2000000 0 0 0] 327),(2000000,.box [.own 2000001,iv k,iv u.N,iv u.D,.mp 2000002] 335),(2000001,.row itE ((l.set i {x with Dur:=subV x.Dur u}).set i (zaC u x)) 183 12),(2000002,.mpb (λi:Int=>.int .i64 i) AV.bool (L))]⟩ (λQ V=>?_) (λQ V=>?_) ?_
 ·refine kK (hs:=y8 (n:=2) {x with Dur:=subV x.Dur u} (zaC u x) rfl rfl Z (λ_=>rfl) (by decide) rfl rfl rfl (by decide) rfl rfl rfl TyK.h) ?_;refine ya ?_;exact kU yi V
 ·refine kK (hs:=y8 (n:=2) {x with Dur:=subV x.Dur u} (zaC u x) rfl rfl Z (λ_=>rfl) (by decide) rfl rfl rfl (by decide) rfl rfl rfl TyK.h) ?_;iterate 2 refine ya ?_
  exact kU yi V
 apply yG;iterate 2 refine ya ?_
 refine ya (hs:=by exact zow rfl rfl) ?_;refine yh ?_;refine kE ?_;refine zc8 (st':=⟨[(5,iv (max (subE x.Dur u) (addE x.Before u)))],[(1000001,.hold vs [.ptr 2000003 0 0 0,.ptr 2000000 0 0 0,.own 2000001,.mp 2000002]),(2000003,.box [.ptr 2000000 0 0 0] 327),(2000000,.box [.own 2000001,iv k,iv u.N,iv u.D,.mp 2000002] 335),(2000001,.row itE (l.set i (zaC u x)) 183 12),(2000002,.mpb (λi:Int=>.int .i64 i) AV.bool (L))]⟩) (by first|exact yd|exact yi) ?_;refine zkj.mk [(5,iv (max (subE x.Dur u) (addE x.Before u)))] [] (.inr rfl) (.one (.tmp rfl (kC ?_)));all_goals rfl
end
end Go.Rse
