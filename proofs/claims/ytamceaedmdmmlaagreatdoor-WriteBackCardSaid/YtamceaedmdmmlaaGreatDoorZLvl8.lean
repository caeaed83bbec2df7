/-
  Walks.
-/
import Derived.Test.YtamceaedmdmmlaaGreatDoorZJLvl13
set_option linter.all false
set_option maxHeartbeats 2000000
namespace Go.Rse
open Go Go.Proofs Go.Proofs.Tryz
attribute [local irreducible] Pur yy yz Ex X Fn Imp LeV LeB FnO It yH FnW FnOW
def zuK(M:List Int)(n:Nat):rfLo M n=(decide (0<(n:Int))&&(decide (M.getD ((n:Int)-1).toNat default=2)||decide (M.getD ((n:Int)-1).toNat default=3))):=by
 unfold rfLo;rw[show((n:Int)-1).toNat=n-1 by omega]
 have:decide (0<n)=decide (0<(n:Int)):=by
  by_cases h:0<n
  ·rw[jJ h,jJ (by omega)]
  ·rw[jH h,jH (by omega)]
 rw[this];rfl
def zzg{u:Tm}{k:Int}{l now:List Ite}{lo:Bool}{s:Sgm}(h:s.Left<0\/lgQ u (itg now s.Left)=false):rfPo u k l now lo s=false:=by
 unfold rfPo;rcases h with h|h
 ·rw[jJ h];rfl
 ·rw[h];simp
def zzh{u:Tm}{k:Int}{l now:List Ite}{lo:Bool}{s:Sgm}(h:lo=true)(Z:(itg l s.Left).Value=k):rfPo u k l now lo s=false:=by
 unfold rfPo;rw[h,jJ Z];simp
def zzi{u:Tm}{k:Int}{l now:List Ite}{lo:Bool}{s:Sgm}(h:0<=s.Left/\lgQ u (itg now s.Left)=true)(Z:(lo&&decide ((itg l s.Left).Value=k))=false):rfPo u k l now lo s=rcQ u (fsL (itR l s)) (itg l s.Left).After:=by
 unfold rfPo;rw[h.2,jH (show¬s.Left<0 by omega),Z];rfl
def zzj{u:Tm}{k:Int}{l now:List Ite}{s:Sgm}(h:s.Right<0\/lgQ u (itg now s.Right)=false):rfAn u k l now s=false:=by
 unfold rfAn;rcases h with h|h
 ·rw[jJ h];rfl
 ·rw[h];simp
def zzk{u:Tm}{k:Int}{l now:List Ite}{s:Sgm}(h:rfBl k l s.Right=true):rfAn u k l now s=false:=by
 unfold rfAn;rw[h];simp
def zzl{u:Tm}{k:Int}{l now:List Ite}{s:Sgm}(h:0<=s.Right/\lgQ u (itg now s.Right)=true)(Z:rfBl k l s.Right=false):rfAn u k l now s=rcQ u (rlaL (itR l s)) (itg l s.Right).Before:=by
 unfold rfAn;rw[h.2,jH (show¬s.Right<0 by omega),Z];rfl
def zzm{k:Int}{l:List Ite}{h:Int}(Z:((((itg l h).Value=k/\(itg l h).Cut=0)/\h+1<(l.length:Int))/\(itg l (h+1)).Color=false)/\(itg l (h+1)).Value=k):rfBl k l h=true:=by
 unfold rfBl;rw[jJ Z.1.1.1.1,jJ Z.1.1.1.2,jJ Z.1.1.2,Z.1.2,jJ Z.2];rfl
def zzn{k:Int}{l:List Ite}{h:Int}(Z:(((¬(itg l h).Value=k\/¬(itg l h).Cut=0)\/(l.length:Int)<=h+1)\/(itg l (h+1)).Color=true)\/¬(itg l (h+1)).Value=k):rfBl k l h=false:=by
 unfold rfBl;rcases Z with(((Z|Z)|Z)|Z)|Z
 ·rw[jH Z];simp
 ·rw[jH Z];simp
 ·rw[jH (show¬h+1<(l.length:Int)by omega)];simp
 ·rw[Z];simp
 ·rw[jH Z];simp
def zzo{u:Tm}{k:Int}{l:List Ite}{s:Sgm}(h:(s.From=s.To\/s.Free=true)\/(0<=s.Right/\¬(itg l s.Right).Before.N=0)):rfAt u k l s=false:=by
 unfold rfAt;rcases h with(h|h)|h
 ·rw[jJ h];simp
 ·rw[h];simp
 ·rw[jH (show¬s.Right<0 by omega),jH h.2];simp
def zzp{u:Tm}{k:Int}{l:List Ite}{s:Sgm}(h:(¬s.From=s.To/\s.Free=false)/\(s.Right<0\/(itg l s.Right).Before.N=0)):rfAt u k l s=ntQ u k (itg l (s.To-1)):=by
 unfold rfAt;rw[jH h.1.1,h.1.2];rcases h.2 with h|h
 ·rw[jJ h];simp
 ·rw[jJ h];simp
def ziy{l:List Ite}{i:Int}(h0:0<=i)(h:i<l.length):l[i.toNat]? =some (itg l i):=by
 unfold itg;rw[jD,lgg (by omega)];rfl
def zzq{u:Tm}{k:Int}{S:List Sgm}{l now:List Ite}{M:List Int}{n:Nat}{s:Sgm}(h:S[n]? =some s):rfA u k S l now M n=rfR (rfPo u k l now (rfLo M n) s) (rfAn u k l now s) (rfAt u k l s) s:=by
 have:S.getD n default=s:=by rw[jD,h];rfl
 unfold rfA;simp only;rw[this]
attribute [local irreducible] fsL fsA lgQ rcQ rlaL cmpV addV addE subV subE drL rfLo itR rfPo rfAn rfAt rfA
def zbb(u:Tm)(k:Int)(l now:List Ite)(S:List Sgm)(M:List Int)(i:Int)(h0:0<=i)(h1:i<now.length):Fn prog 301 [.ept (λ_:Unit=>[iv u.N,iv u.D,iv k,itsA l,itsA now,smsA S,yc M]) () 0,iv i] (.bool (lgQ u (itg now i))):=by
 have hx:=ziy h0 h1;have Z:lgQ u (itg now i)=decide (0<cmpV (itg now i).Dur u):=by unfold lgQ;rfl
 refine kR func301 ntmps301 (λg w d=>?_);refine gq ?_;refine yW [5,6,7,8,9,10,11,12,13,14,15,16,17,18,19,20,21,22] [0,1,3,7,0,31,63,127,0,256,768,1792,4095,8191,16383,16383,32767,131071] mo ?_;iterate 12 refine yb ?_
 refine yO (zbU (itg now i).Dur u) ?_;iterate 5 refine yb ?_
 refine yI ?_;refine gq ?_;all_goals rw[Z]
def zao(u:Tm)(k:Int)(l now:List Ite)(S:List Sgm)(M:List Int)(n:Nat)(s:Sgm)(hn:S[n]? =some s)(hs:SgB l.length s)(hl:l.length<=1000000)(G:now.length=l.length)(hM:n<=M.length)(E:n<=4000000):Fn prog 276 [.ept (λ_:Unit=>[iv u.N,iv u.D,iv k,itsA l,itsA now,smsA S,yc M]) () 0,iv n] (.bool (rfPo u k l now (rfLo M n) s)):=by
 have f0:=hs.f0;have ft:=hs.ft;have tn:=hs.tn;have lf:=hs.lf;have rt:=hs.rt;have xT:S[(n:Int).toNat]? =some s:=by simpa using hn
 have U:=zuK M n;refine kR func276 ntmps276 (λg w d=>?_);apply ye;refine ya ?_;apply yE;iterate 7 refine ya ?_
 refine za ?_;refine kV ?_;apply kW;apply yh;apply ye;iterate 3 refine ya ?_
 refine kU 3 ?_;refine gq ?_;refine ExF.cp (λJ=>(zbb u k l now S M s.Left (by first|omega|exact J) (by omega))) ?_;refine kS ?_;refine gf ?_ ?_<;>intro V
 ·have hE:rfPo u k l now (rfLo M n) s=false:=zzg V;refine gq ?_;all_goals(first|(rw[hE,T];done)|exact zE hE)
 have hx:=ziy (l:=l) (i:=s.Left) V.1 lf;refine gq ?_;refine yW [25,26,27,28,29,30,31,32,33,34,35,36,37,38,39,40,41,42,43,44,45,46,47,48,49,50,51,52,53,54,55,56,57,58,59,60,61,62,63,64] [0,1,3,7,15,31,63,7,135,511,1023,2047,4095,8191,16383,32767,65535,8191,139263,524287,1048575,2097151,4194303,8388607,16777215,33554431,67108863,134217727,268435455,33554431,570425343,2147483647,4294967295,8589934591,33554431,17213423615,51573161983,120292638719,274877906943,549755813887] mo ?_;iterate 3 refine yb ?_
 iterate 20 refine kZ ?_
 iterate 2 refine yb ?_
 iterate 14 refine kZ ?_
 refine yb ?_;refine yI ?_;refine gd ?_ ?_<;>intro Z
 ·have H:rfLo M n=true:=by rw[U,jJ Z.1.1];rcases Z.1.2 with h|h<;>rw[jJ h]<;>simp
  have hE:rfPo u k l now (rfLo M n) s=false:=zzh H Z.2;refine gq ?_;all_goals(first|(rw[hE,T];done)|exact zE hE)
 have H:(rfLo M n&&decide ((itg l s.Left).Value=k))=false:=by
  rw[U];rcases Z with(h|h)|h
  ·rw[jH (by omega)];rfl
  ·rw[jH h.1,jH h.2];simp
  ·rw[jH h];simp
 have hE:rfPo u k l now (rfLo M n) s=rcQ u (fsL (itR l s)) (itg l s.Left).After:=zzi V H;have T:rcQ u (fsL (itR l s)) (itg l s.Left).After=(decide (addE (itg l s.Left).After u=0)&&decide (addV (itg l s.Left).After u∈fsL (itR l s))):=by unfold rcQ;rfl
 refine gq ?_;refine yW [6,65,66,67,68,69,70,71,72,73,74,75,76,77,78,79,80,81] [0,1,3,7,0,16,63,127,255,0,512,1536,3584,8191,16383,32767,32767,0,196607,524287] mo ?_;iterate 13 refine yb ?_
 refine yO (y4 (itg l s.Left).After u) ?_;iterate 3 refine yb ?_
 refine ChM.step rfl rfl rfl (zp (k:=6) zc61) rfl ?_;refine ChM.lt 16 ?_ ?_
 ·refine gq ?_;refine yW [4,82,83,84,85,86,87,88,89,90,91,92] [0,1,3,7,15,31,63,7,7,511,1023,2047] mo ?_;iterate 3 refine yb ?_
  iterate 6 refine kZ ?_
  refine bK (zco l s (addV (itg l s.Left).After u) hs hl) ?_;iterate 2 refine yb ?_
  refine yI ?_;refine gq ?_;all_goals(first|(rw[hE,T];done)|exact zE hE)
 ·refine gq ?_;refine yW [4,82,83,84,85,86,87,88,89,90,91,92] [0,1,3,7,15,31,63,7,7,511,1023,2047] mo ?_;iterate 3 refine yb ?_
  iterate 6 refine kZ ?_
  refine bK (zco l s (addV (itg l s.Left).After u) hs hl) ?_;iterate 2 refine yb ?_
  refine yI ?_;refine gq ?_;all_goals(first|(rw[hE,T];done)|exact zE hE)
def zap(u:Tm)(k:Int)(l now:List Ite)(S:List Sgm)(M:List Int)(n:Nat)(s:Sgm)(hn:S[n]? =some s)(hs:SgB l.length s)(hl:l.length<=1000000)(J:now.length=l.length)(H:n<=4000000):Fn prog 277 [.ept (λ_:Unit=>[iv u.N,iv u.D,iv k,itsA l,itsA now,smsA S,yc M]) () 0,iv n] (.bool (rfAn u k l now s)):=by
 have f0:=hs.f0;have ft:=hs.ft;have tn:=hs.tn;have lf:=hs.lf;have rt:=hs.rt;have G:S[(n:Int).toNat]? =some s:=by simpa using hn
 refine kR func277 ntmps277 (λg w d=>?_);apply ye;refine ya ?_;apply yE;iterate 7 refine ya ?_
 refine za ?_;refine kV ?_;apply kW;apply yh;apply ye;iterate 3 refine ya ?_
 refine kU 3 ?_;refine gq ?_;refine ExF.cp (λT=>(zbb u k l now S M s.Right (by first|omega|exact T) (by omega))) ?_;refine kS ?_;refine gf ?_ ?_<;>intro Z
 ·have hE:rfAn u k l now s=false:=zzj Z;refine gq ?_;all_goals(first|(rw[hE,U];done)|exact zE hE)
 have hx:=ziy (l:=l) (i:=s.Right) Z.1 rt;refine gq ?_;refine yW [6,26,27,28,29,30,31,32,33] [0,1,3,7,0,16,63,127,0,511] mo ?_;iterate 8 refine yb ?_
 refine ChM.step rfl rfl rfl (zp (k:=6) zhd) rfl ?_;refine yI ?_;refine gq ?_;refine yW [34,35,36,37,38,39,40,41,42,43,44,45,46,47,48,49,50,51,52,53,54,55,56,57,58,59,60,61,62,63,64,65,66,67,68,69,70,71,72,73,74,75,76,77,78,79,80,81,82,83,84,85,86] [0,1,0,4,12,28,63,127,255,511,1023,2047,4095,8191,16383,32767,8191,73727,204799,466943,991231,2097151,4194303,8388607,16777215,33554431,67108863,134217727,16777215,285212671,822083583,2147483647,4294967295,8589934591,17179869183,34359738367,68719476735,137438953471,274877906943,549755813887,1099511627775,137438953471,2336462209023,6734508720127,17592186044415,35184372088831,70368744177663,137438953471,140874927308799,422349904019455,985299857440767,2251799813685247,4503599627370495] mo ?_;iterate 8 refine yb ?_
 iterate 3 refine kZ ?_
 iterate 2 refine yb ?_
 iterate 9 refine kZ ?_
 iterate 2 refine yb ?_
 iterate 11 refine kZ ?_
 iterate 2 refine yb ?_
 iterate 15 refine kZ ?_
 refine yb ?_;refine yI ?_;refine gd ?_ ?_<;>intro V
 ·have hE:rfAn u k l now s=false:=zzk (zzm V);refine gq ?_;all_goals(first|(rw[hE,U];done)|exact zE hE)
 have hE:rfAn u k l now s=rcQ u (rlaL (itR l s)) (itg l s.Right).Before:=zzl Z (zzn V);have U:rcQ u (rlaL (itR l s)) (itg l s.Right).Before=(decide (addE (itg l s.Right).Before u=0)&&decide (addV (itg l s.Right).Before u∈rlaL (itR l s))):=by unfold rcQ;rfl
 refine gq ?_;refine yW [7,87,88,89,90,91,92,93,94,95,96] [0,1,0,4,12,28,63,127,255,255,0,1535,4095] mo ?_;iterate 6 refine yb ?_
 refine yO (y4 (itg l s.Right).Before u) ?_;iterate 3 refine yb ?_
 refine ChM.step rfl rfl rfl (zp (k:=7) zc61) rfl ?_;refine ChM.lt 9 ?_ ?_
 ·refine gq ?_;refine yW [4,97,98,99,100,101,102,103,104,105,106,107] [0,1,3,7,15,31,63,7,7,511,1023,2047] mo ?_;iterate 3 refine yb ?_
  iterate 6 refine kZ ?_
  refine bK (zcM l s (addV (itg l s.Right).Before u) hs hl) ?_;iterate 2 refine yb ?_
  refine yI ?_;refine gq ?_;all_goals(first|(rw[hE,U];done)|exact zE hE)
 ·refine gq ?_;refine yW [4,97,98,99,100,101,102,103,104,105,106,107] [0,1,3,7,15,31,63,7,7,511,1023,2047] mo ?_;iterate 3 refine yb ?_
  iterate 6 refine kZ ?_
  refine bK (zcM l s (addV (itg l s.Right).Before u) hs hl) ?_;iterate 2 refine yb ?_
  refine yI ?_;refine gq ?_;all_goals(first|(rw[hE,U];done)|exact zE hE)
def za4(u:Tm)(k:Int)(l now:List Ite)(S:List Sgm)(M:List Int)(n:Nat)(s:Sgm)(hn:S[n]? =some s)(hs:SgB l.length s)(hl:l.length<=1000000)(V:now.length=l.length)(U:n<=4000000)(k0:-9223372036854775808<=k)(k1:k+1<=9223372036854775807):Fn prog 278 [.ept (λ_:Unit=>[iv u.N,iv u.D,iv k,itsA l,itsA now,smsA S,yc M]) () 0,iv n] (.bool (rfAt u k l s)):=by
 have f0:=hs.f0;have ft:=hs.ft;have tn:=hs.tn;have lf:=hs.lf;have rt:=hs.rt;have T:S[(n:Int).toNat]? =some s:=by simpa using hn
 refine kR func278 ntmps278 (λg w d=>?_);refine gq ?_;refine yW [14,15,16,17,18,19,20,21,22,23,24,25,26,27,28,29,30,31,32,33,34,35,36,37,38,39,40] [0,1,0,4,15,31,63,127,255,511,1023,2047,4095,8191,16383,32767,65535,131071,16383,278527,1048575,2097151,4194303,8388607,16777215,33554431,67108863] mo ?_;iterate 6 refine yb ?_
 iterate 2 refine kZ ?_
 iterate 2 refine yb ?_
 iterate 16 refine kZ ?_
 refine yb ?_;refine yI ?_;refine gd ?_ ?_<;>intro Z
 ·have hE:rfAt u k l s=false:=zzo Z;refine gq ?_;all_goals(first|exact zE hE|(rw[hE];unfold ntQ;rfl))
 have hx:=ziy (l:=l) (i:=s.To-1) (by omega) (by omega);have hE:rfAt u k l s=ntQ u k (itg l (s.To-1)):=zzp Z;refine gq ?_;refine yW [6,41,42,43,44,45,46,47,48,49] [0,1,3,7,0,16,48,127,255,0,1023] mo ?_;iterate 9 refine yb ?_
 refine ChM.step rfl rfl rfl (zp (k:=6) zhd) rfl ?_;refine yI ?_;refine gq ?_;refine yW [4,50,51,52,53,54,55,56,57,58,59,60,61,62,63,64,65,66,67,68,69,70,71,72,73,74,75,76,77,78,79,80,81] [0,1,3,7,15,31,63,127,255,511,1023,2047,4095,8191,16383,32767,16383,81919,212991,475135,999423,2097151,4194303,8388607,16777215,33554431,16777215,83886079,218103807,486539263,1073741823,2147483647,4294967295] mo ?_;iterate 4 refine yb ?_
 iterate 3 refine kZ ?_
 iterate 2 refine yb ?_
 iterate 3 refine kZ ?_
 iterate 2 refine yb ?_
 iterate 8 refine kZ ?_
 iterate 2 refine yb ?_
 iterate 7 refine kZ ?_
 iterate 2 refine yb ?_
 refine yI ?_;refine gq ?_;all_goals(first|exact zE hE|(rw[hE];unfold ntQ;rfl))
def zX(u:Tm)(k:Int)(l now:List Ite)(S:List Sgm)(M:List Int)(s:Sgm)(hn:S[M.length]? =some s)(hs:SgB l.length s)(hl:l.length<=1000000)(U:now.length=l.length)(hM:M.length<=4000000)(k0:-9223372036854775808<=k)(k1:k+1<=9223372036854775807)(hN:0<=s.Count.N):FnOW prog 249 [.ept (λ_:Unit=>[iv u.N,iv u.D,iv k,itsA l,itsA now,smsA S,yc M]) () 0] intE (rfA u k S l now M M.length) 3 1 (λ_ _ _=>True):=by
 have x0:S[(M.length:Int).toNat]? =some s:=by simpa using hn
 have J:=zzq (u:=u) (k:=k) (l:=l) (now:=now) (M:=M) hn;refine FnOW.go func249 ntmps249 (rv:=[.tmp 2]) (λg w d hH w9=>?_);apply ye;refine ya ?_;apply yE;iterate 6 refine ya ?_
 apply yE;iterate 7 refine ya ?_
 refine za ?_;refine kV ?_;apply yE;refine yj ?_;iterate 2 apply yh
 refine kT (yG intE 3 1 5 5 rfl rfl) ?_;refine gd ?_ ?_<;>intro Z
 ·refine gq ?_;refine yD intE [(0:Int)] ?_;refine kV ?_;refine yj ?_;apply yh;apply ye;iterate 4 refine ya ?_
  refine kU 4 ?_;refine gq ?_;refine bJ (zao u k l now S M M.length s hn hs hl U (jE _) hM) ?_;refine gf ?_ ?_<;>intro H
  ·refine gq ?_;refine yD intE [(1:Int)] ?_;refine kV ?_;refine ya ?_;apply kW;apply yh;apply yf;refine yQ ?_;refine kQ ?_;have he:([]++[(0:Int)])++[(1:Int)]=rfA u k S l now M M.length:=by rw[J];unfold rfR;rw[j6 Z,j6 ⟨H.1.1,H.1.2,H.2⟩]<;>rfl
   refine⟨.inr rfl,[(2,.own 5)],[],yd,.one (.tmp rfl (kO rfl))⟩
  ·apply yk;apply ye;refine yQ ?_;refine kQ ?_
   have he:[]++[(0:Int)]=rfA u k S l now M M.length:=by
    rw[J];unfold rfR;rw[j6 Z,j7 (λG=>by rcases H with(h|h)|h;(exact h G.1);(exact h G.2.1);(rw[G.2.2]at h;cases h))]<;>rfl
   refine⟨.inr rfl,[(2,.own 5)],[],yd,.one (.tmp rfl (kO rfl))⟩
 refine gd ?_ ?_<;>intro V
 ·refine gq ?_;refine yD intE [(0:Int)] ?_;refine kV ?_;refine ya ?_;apply kW;apply yh;apply yf;refine yQ ?_;refine kQ ?_;have he:[]++[(0:Int)]=rfA u k S l now M M.length:=by rw[J];unfold rfR;rw[j7 (by rw[Z];simp),j6 V]<;>rfl
  refine⟨.inr rfl,[(2,.own 5)],[],yd,.one (.tmp rfl (kO rfl))⟩
 ·refine gd ?_ ?_<;>intro T
  ·refine gc (zao u k l now S M M.length s hn hs hl U (jE _) hM) ?_;refine gd ?_ ?_<;>intro E
   ·refine gq ?_;refine yD intE [(1:Int)] ?_;refine gc (zap u k l now S M M.length s hn hs hl U hM) ?_;refine gd ?_ ?_<;>intro x3
    ·refine gq ?_;refine yD intE [(2:Int)] ?_;refine kV ?_;refine ya ?_;apply kW;apply yh;apply yf;refine yQ ?_;refine kQ ?_;have he:([]++[(1:Int)])++[(2:Int)]=rfA u k S l now M M.length:=by rw[J];unfold rfR;rw[j7 (by rw[Z];simp),j7 V,j6 T,j6 E,j6 x3]<;>rfl
     refine⟨.inr rfl,[(2,.own 5)],[],yd,.one (.tmp rfl (kO rfl))⟩
    ·apply yk;apply ye;refine yQ ?_;refine kQ ?_;have he:[]++[(1:Int)]=rfA u k S l now M M.length:=by rw[J];unfold rfR;rw[j7 (by rw[Z];simp),j7 V,j6 T,j6 E,j7 (by rw[x3];simp)]<;>rfl
     refine⟨.inr rfl,[(2,.own 5)],[],yd,.one (.tmp rfl (kO rfl))⟩
   ·refine gc (zap u k l now S M M.length s hn hs hl U hM) ?_;refine gd ?_ ?_<;>intro x2
    ·refine gq ?_;refine yD intE [(2:Int)] ?_;refine kV ?_;refine ya ?_;apply kW;apply yh;apply yf;refine yQ ?_;refine kQ ?_;have he:[]++[(2:Int)]=rfA u k S l now M M.length:=by rw[J];unfold rfR;rw[j7 (by rw[Z];simp),j7 V,j6 T,j7 (by rw[E];simp),j6 x2]<;>rfl
     refine⟨.inr rfl,[(2,.own 5)],[],yd,.one (.tmp rfl (kO rfl))⟩
    ·apply yk;apply ye;refine yQ ?_;refine kQ ?_;have he:[]=rfA u k S l now M M.length:=by rw[J];unfold rfR;rw[j7 (by rw[Z];simp),j7 V,j6 T,j7 (by rw[E];simp),j7 (by rw[x2];simp)]<;>rfl
     refine⟨.inr rfl,[(2,.own 5)],[],yd,.one (.tmp rfl (kO rfl))⟩
  ·refine gq ?_;refine yR (zao u k l now S M M.length s hn hs hl U (jE _) hM) ?_;refine kU 3 ?_;refine gq ?_;refine bJ (zap u k l now S M M.length s hn hs hl U hM) ?_;refine gf ?_ ?_<;>intro xT
   ·refine gq ?_;refine yD intE [(3:Int)] ?_;refine gc (za4 u k l now S M M.length s hn hs hl U hM k0 k1) ?_;refine gd ?_ ?_<;>intro x1
    ·refine gq ?_;refine yD intE [(4:Int)] ?_;refine kV ?_;refine ya ?_;apply kW;apply yh;apply yf;refine yQ ?_;refine kQ ?_;have he:([]++[(3:Int)])++[(4:Int)]=rfA u k S l now M M.length:=by rw[J];unfold rfR;rw[j7 (by rw[Z];simp),j7 V,j7 T,j6 xT,j6 x1]<;>rfl
     refine⟨.inr rfl,[(2,.own 5)],[],yd,.one (.tmp rfl (kO rfl))⟩
    ·apply yk;apply ye;refine yQ ?_;refine kQ ?_;have he:[]++[(3:Int)]=rfA u k S l now M M.length:=by rw[J];unfold rfR;rw[j7 (by rw[Z];simp),j7 V,j7 T,j6 xT,j7 (by rw[x1];simp)]<;>rfl
     refine⟨.inr rfl,[(2,.own 5)],[],yd,.one (.tmp rfl (kO rfl))⟩
   ·refine gc (za4 u k l now S M M.length s hn hs hl U hM k0 k1) ?_;refine gd ?_ ?_<;>intro x4
    ·refine gq ?_;refine yD intE [(4:Int)] ?_;refine kV ?_;refine ya ?_;apply kW;apply yh;apply yf;refine yQ ?_;refine kQ ?_;have he:[]++[(4:Int)]=rfA u k S l now M M.length:=by rw[J];unfold rfR;rw[j7 (by rw[Z];simp),j7 V,j7 T,j7 (λG=>by rcases xT with h|h;(rw[G.1]at h;cases h);(rw[G.2]at h;cases h)),j6 x4]<;>rfl
     refine⟨.inr rfl,[(2,.own 5)],[],yd,.one (.tmp rfl (kO rfl))⟩
    ·apply yk;apply ye;refine yQ ?_;refine kQ ?_;have he:[]=rfA u k S l now M M.length:=by rw[J];unfold rfR;rw[j7 (by rw[Z];simp),j7 V,j7 T,j7 (λG=>by rcases xT with h|h;(rw[G.1]at h;cases h);(rw[G.2]at h;cases h)),j7 (by rw[x4];simp)]<;>rfl
     refine⟨.inr rfl,[(2,.own 5)],[],yd,.one (.tmp rfl (kO rfl))⟩
end Go.Rse
