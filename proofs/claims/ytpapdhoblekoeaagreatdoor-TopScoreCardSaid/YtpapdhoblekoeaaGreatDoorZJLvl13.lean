/-
  Walks.
-/
import Derived.Test.YtpapdhoblekoeaaGreatDoorZJLvl4
set_option linter.all false
set_option maxHeartbeats 4000000
namespace Go.Rse
open Go Go.Proofs Go.Proofs.Tryz
attribute [local irreducible] Pur yy yu Ex X Fn Imp LeV LeB FnO It yA FnW FnOW
section
def za8(m:Mn)(k:Int)(l:List Ite):(segV m k l).length<=2*l.length+2:=by
 unfold segV;split
 ·rw[jD,zeb,zib];have:=zia k l l.length;omega
 ·simp
attribute [local irreducible] stK okJ alQ chN chL segV segE alE alV apE apV unT
def zfZ(m:Mn)(k:Int)(l:List Ite)(M:List Int)(h0:-9223372036854775808<=k)(h1:k<=9223372036854775807)(hl:l.length<=1000000)(K:M.length<=4000000)(hE:¬segE m k l=0):Fn prog 236 [mnA m,iv k,itsA l,yj M] (.tup [yj [],iv (segE m k l)]):=by
 refine bB func236 ntmps236 (λg w d=>?_);refine gc (zdk m k l h0 h1 hl hE) ?_;refine gd ?_ ?_<;>intro N
 ·apply yc;refine yo ?_;refine bC ?_;refine yi (yh (ts:=[(8,yj []),(9,iv (segE m k l))]) (hs:=[])) ?_;refine yn ?_ ?_;all_goals exact zR
 exact absurd N hE
def zf0(m:Mn)(k:Int)(l:List Ite)(M:List Int)(h0:-9223372036854775808<=k)(h1:k<=9223372036854775807)(hl:l.length<=1000000)(hM:M.length<=4000000)(hE:segE m k l=0)(hX:(decide (((segV m k l).length:Int)<=(M.length:Int)))=true):Fn prog 236 [mnA m,iv k,itsA l,yj M] (.tup [yj [],iv 2]):=by
 have H:=za8 m k l;have hu:=ziD (ziG hE).1;have G:=zdB hE;refine bB func236 ntmps236 (λg w d=>?_);refine gq ?_;refine y0 [(36,2000000),(30,2000001),(34,2000002)] (zF m k l h0 h1 hl hE) ?_;refine gd ?_ ?_<;>intro K
 ·exact absurd rfl K
 apply yf;iterate 2 apply ye
 have E:((decide (((segV m k l).length:Int)<=(M.length:Int)))==false)=false:=by rw[hX];rfl
 ·apply yd;iterate 6 refine ya ?_
  iterate 5 refine zbc ?_
  refine gd ?_ ?_<;>intro N
  ·apply yc;refine yC ?_;refine bC ?_;refine yi (yh (ts:=[(8,yj []),(9,iv 2)]) (hs:=[])) ?_;refine yn ?_ ?_;all_goals exact zR
  first|(exact absurd N.2 ac)|(cases N;done)|(exact absurd N (by simp[hX]))|(simp[hX]at N;done)|(rcases N with h|h<;>first|(cases h;done)|(exact absurd h (ao hX))|(simp[hX]at h;done)|(exact absurd h ac))
def zf1(m:Mn)(k:Int)(l:List Ite)(M:List Int)(h0:-9223372036854775808<=k)(h1:k<=9223372036854775807)(hl:l.length<=1000000)(hM:M.length<=4000000)(hE:segE m k l=0)(hX:(decide (((segV m k l).length:Int)<=(M.length:Int)))=false)(hok:okJ (unT m k) k (segV m k l) l M M.length=false)(hN:∀s∈segV m k l,0<=s.Count.N)(hMS:M.length<=(segV m k l).length):Fn prog 236 [mnA m,iv k,itsA l,yj M] (.tup [yj [],iv 2]):=by
 have xT:=za8 m k l;have hu:=ziD (ziG hE).1;have H:=zdB hE;refine bB func236 ntmps236 (λg w d=>?_);refine gq ?_;refine y0 [(36,2000000),(30,2000001),(34,2000002)] (zF m k l h0 h1 hl hE) ?_;refine gd ?_ ?_<;>intro G
 ·exact absurd rfl G
 apply yf;iterate 2 apply ye
 have E:((decide (((segV m k l).length:Int)<=(M.length:Int)))==false)=true:=by rw[hX];rfl
 ·apply yd;iterate 6 refine ya ?_
  iterate 3 refine zS ?_
  refine zk rfl rfl E ?_;refine y0 [(2000000,2000000),(2000001,2000001),(2000002,2000002)] (zbM (unT m k) k (segV m k l) l M H hN hMS hl aa aa aa hok) ?_;refine zS ?_;refine gd ?_ ?_<;>intro K
  ·apply yc;refine yC ?_;refine bC ?_;refine yi (yh (ts:=[(8,yj []),(9,iv 2)]) (hs:=[])) ?_;refine yn ?_ ?_;all_goals exact zR
  first|(exact absurd K.2 ac)|(cases K;done)|(exact absurd K (by simp[hX]))|(simp[hX]at K;done)|(rcases K with h|h<;>first|(cases h;done)|(exact absurd h (ao hX))|(simp[hX]at h;done)|(exact absurd h ac))
def zf2(m:Mn)(k:Int)(l:List Ite)(M:List Int)(h0:-9223372036854775808<=k)(h1:k<=9223372036854775807)(hl:l.length<=1000000)(hM:M.length<=4000000)(hE:segE m k l=0)(hX:(decide (((segV m k l).length:Int)<=(M.length:Int)))=false)(hok:okJ (unT m k) k (segV m k l) l M M.length=true)(hN:∀s∈segV m k l,0<=s.Count.N)(hMS:M.length<=(segV m k l).length):Fn prog 236 [mnA m,iv k,itsA l,yj M] (.tup [yj (alK (unT m k) k (segV m k l) l M M.length),iv 0]):=by
 have w2:=za8 m k l;have hu:=ziD (ziG hE).1;have H:=zdB hE;obtain⟨s,hs⟩:∃s,(segV m k l)[M.length]? =some s:=⟨_,lgg (by simp at hX;omega)⟩;have v9:(segV m k l)[(M.length:Int).toNat]? =some s:=ao hs
 have G:=H.all s (j6 hs);have E:=zii G.b (zcP (unT m k) (segV m k l) l M M.length);have xT:=hN s (j6 hs);have v8:=zcP (unT m k) (segV m k l) l M M.length;have x2:alQ (unT m k) k (stK (unT m k) (segV m k l) l M M.length).1 (stK (unT m k) (segV m k l) l M M.length).2 s=alK (unT m k) k (segV m k l) l M M.length:=by unfold alK;rw[show(segV m k l).getD M.length default=s by rw[jB,hs];rfl]
 refine bB func236 ntmps236 (λg w d=>?_);refine gq ?_;refine y0 [(36,2000000),(30,2000001),(34,2000002)] (zF m k l h0 h1 hl hE) ?_;refine gd ?_ ?_<;>intro x1
 ·exact absurd rfl x1
 apply yf;iterate 2 apply ye
 have x0:((decide (((segV m k l).length:Int)<=(M.length:Int)))==false)=true:=by rw[hX];rfl
 ·apply yd;iterate 6 refine ya ?_
  iterate 3 refine zS ?_
  refine zk rfl rfl x0 ?_;refine y0 [(2000000,2000000),(2000001,2000001),(2000002,2000002)] (zay (unT m k) k (segV m k l) l M H hN hMS hl aa aa aa hok) ?_;refine zS ?_;refine gd ?_ ?_<;>intro K
  ·first|(exact absurd K.2 ac)|(cases K;done)|(exact absurd K (by simp[hX]))|(simp[hX]at K;done)|(rcases K with h|h<;>first|(cases h;done)|(exact absurd h (ao hX))|(simp[hX]at h;done)|(exact absurd h ac))
  refine gq ?_;refine bP (zgQ (ι:=Nat) (stF:=λb=>⟨[(36,.ept (λ_:Unit=>[.sl itE (stK (unT m k) (segV m k l) l M M.length).1,iv k,iv (unT m k).N,iv (unT m k).D,.val (.map (some b))]) () 0),(41,smA s)],[]⟩) 42 (λg a w hr=>zpU (k:=2000002) rfl (λb=>(kY (k:=2000001) rfl).trans ((bG (k:=2000000) rfl rfl).trans yh)) (λ_=>rfl) (λ_=>rfl) hr) (λb=>zap (stK (unT m k) (segV m k l) l M M.length).1 k (unT m k) b (stK (unT m k) (segV m k l) l M M.length).2 s E aa aa aa xT)) rfl rfl ?_;refine yC ?_;refine bC ?_;refine yi (kY (k:=42) rfl) ?_;refine yn ?_ ?_;all_goals(first|exact jA (λz=>yj z) x2|rfl)
def zhO(m:Mn)(k:Int)(l:List Ite)(M:List Int)(h0:-9223372036854775808<=k)(h1:k<=9223372036854775807)(hl:l.length<=1000000)(K:M.length<=4000000)(hE:¬segE m k l=0):Fn prog 201 [mnA m,iv k,itsA l,yj M] (.tup [itsA [],iv (segE m k l)]):=by
 refine bB func201 ntmps201 (λg w d=>?_);refine gc (zdk m k l h0 h1 hl hE) ?_;refine gd ?_ ?_<;>intro N
 ·apply yc;refine yo ?_;refine bC ?_;refine yi (yh (ts:=[(8,itsA []),(9,iv (segE m k l))]) (hs:=[])) ?_;refine yn ?_ ?_;all_goals exact zR
 exact absurd N hE
def zhP(m:Mn)(k:Int)(l:List Ite)(M:List Int)(h0:-9223372036854775808<=k)(h1:k<=9223372036854775807)(hl:l.length<=1000000)(hM:M.length<=4000000)(hE:segE m k l=0)(hX:(!decide ((M.length:Int)=((segV m k l).length:Int)))=true):Fn prog 201 [mnA m,iv k,itsA l,yj M] (.tup [itsA [],iv 2]):=by
 have H:=za8 m k l;have hu:=ziD (ziG hE).1;have G:=zdB hE;refine bB func201 ntmps201 (λg w d=>?_);refine gq ?_;refine y0 [(36,2000000),(30,2000001),(34,2000002)] (zF m k l h0 h1 hl hE) ?_;refine gd ?_ ?_<;>intro K
 ·exact absurd rfl K
 apply yf;iterate 2 apply ye
 have E:((!decide ((M.length:Int)=((segV m k l).length:Int)))==false)=false:=by rw[hX];rfl
 ·apply yd;iterate 6 refine ya ?_
  iterate 5 refine zbc ?_
  refine gd ?_ ?_<;>intro N
  ·apply yc;refine yC ?_;refine bC ?_;refine yi (yh (ts:=[(8,itsA []),(9,iv 2)]) (hs:=[])) ?_;refine yn ?_ ?_;all_goals exact zR
  first|(exact absurd N.2 ac)|(cases N;done)|(exact absurd N (by simp[hX]))|(simp[hX]at N;done)|(rcases N with h|h<;>first|(cases h;done)|(exact absurd h (ao hX))|(simp[hX]at h;done)|(exact absurd h ac))
def zhQ(m:Mn)(k:Int)(l:List Ite)(M:List Int)(h0:-9223372036854775808<=k)(h1:k<=9223372036854775807)(hl:l.length<=1000000)(hM:M.length<=4000000)(hE:segE m k l=0)(hX:(!decide ((M.length:Int)=((segV m k l).length:Int)))=false)(hok:okJ (unT m k) k (segV m k l) l M M.length=false)(hN:∀s∈segV m k l,0<=s.Count.N)(hMS:M.length<=(segV m k l).length):Fn prog 201 [mnA m,iv k,itsA l,yj M] (.tup [itsA [],iv 2]):=by
 have xT:=za8 m k l;have hu:=ziD (ziG hE).1;have H:=zdB hE;refine bB func201 ntmps201 (λg w d=>?_);refine gq ?_;refine y0 [(36,2000000),(30,2000001),(34,2000002)] (zF m k l h0 h1 hl hE) ?_;refine gd ?_ ?_<;>intro G
 ·exact absurd rfl G
 apply yf;iterate 2 apply ye
 have E:((!decide ((M.length:Int)=((segV m k l).length:Int)))==false)=true:=by rw[hX];rfl
 ·apply yd;iterate 6 refine ya ?_
  iterate 3 refine zS ?_
  refine zk rfl rfl E ?_;refine y0 [(2000000,2000000),(2000001,2000001),(2000002,2000002)] (zbM (unT m k) k (segV m k l) l M H hN hMS hl aa aa aa hok) ?_;refine zS ?_;refine gd ?_ ?_<;>intro K
  ·apply yc;refine yC ?_;refine bC ?_;refine yi (yh (ts:=[(8,itsA []),(9,iv 2)]) (hs:=[])) ?_;refine yn ?_ ?_;all_goals exact zR
  first|(exact absurd K.2 ac)|(cases K;done)|(exact absurd K (by simp[hX]))|(simp[hX]at K;done)|(rcases K with h|h<;>first|(cases h;done)|(exact absurd h (ao hX))|(simp[hX]at h;done)|(exact absurd h ac))
def zhR(m:Mn)(k:Int)(l:List Ite)(M:List Int)(h0:-9223372036854775808<=k)(h1:k<=9223372036854775807)(hl:l.length<=1000000)(hM:M.length<=4000000)(hE:segE m k l=0)(hX:(!decide ((M.length:Int)=((segV m k l).length:Int)))=false)(hok:okJ (unT m k) k (segV m k l) l M M.length=true)(hN:∀s∈segV m k l,0<=s.Count.N)(hMS:M.length<=(segV m k l).length):Fn prog 201 [mnA m,iv k,itsA l,yj M] (.tup [itsA (stK (unT m k) (segV m k l) l M M.length).1,iv 0]):=by
 have xT:=za8 m k l;have hu:=ziD (ziG hE).1;have H:=zdB hE;refine bB func201 ntmps201 (λg w d=>?_);refine gq ?_;refine y0 [(36,2000000),(30,2000001),(34,2000002)] (zF m k l h0 h1 hl hE) ?_;refine gd ?_ ?_<;>intro G
 ·exact absurd rfl G
 apply yf;iterate 2 apply ye
 have E:((!decide ((M.length:Int)=((segV m k l).length:Int)))==false)=true:=by rw[hX];rfl
 ·apply yd;iterate 6 refine ya ?_
  iterate 3 refine zS ?_
  refine zk rfl rfl E ?_;refine y0 [(2000000,2000000),(2000001,2000001),(2000002,2000002)] (zay (unT m k) k (segV m k l) l M H hN hMS hl aa aa aa hok) ?_;refine zS ?_;refine gd ?_ ?_<;>intro K
  ·first|(exact absurd K.2 ac)|(cases K;done)|(exact absurd K (by simp[hX]))|(simp[hX]at K;done)|(rcases K with h|h<;>first|(cases h;done)|(exact absurd h (ao hX))|(simp[hX]at h;done)|(exact absurd h ac))
  apply yf;apply yc;refine ya ?_;refine ya ?_ (hs:=by exact yg rfl);iterate 2 refine ya ?_
  refine yo ?_;refine bC ?_;refine yi (kY (k:=2000001) rfl) ?_;refine yn ?_ ?_;all_goals(first|exact jA (λz=>yj z) x2|rfl)
end
section
attribute [local irreducible] fsA fsL drL addV addE subV subE divV divE sumF itR
end
section
attribute [local irreducible] fsL fsA lgQ rcQ cmpV addV addE subV subE drL itR
end
section
attribute [local irreducible] fsA addV addE subV subE lsE cnA cnB cnC cnE cnV cn1 divE divV sumF itR drL
end
section
attribute [local irreducible] addV addE subV subE chA chB chN
end
section
attribute [local irreducible] stK okJ alK alQ chN chL segV segE unT
end
section
def zub(n d:Int):0<=(tmkT n d).N:=by
 unfold tmkT;split
 ·rename_i h;unfold tmkE at h;split at h;all_goals simp_all[uL,gI]
 ·exact vD _
def zzi(u:Tm)(l:List Ite)(s:Sgm):0<=(cnV u l s).N:=by
 unfold cnV;split
 ·unfold divV;split
  ·split
   ·exact vD _
   ·unfold tmsV;split
    ·exact vD _
    ·exact zub _ _
  ·exact vD _
 ·exact vD _
def zg0(m:Mn)(k:Int)(l:List Ite):∀s∈segV m k l,0<=s.Count.N:=by
 unfold segV;split
 ·intro s hs;obtain⟨t,ht,rfl⟩:=jS.1 hs;exact zzi _ _ _
 simp_all
section
variable{m:Mn}{k:Int}{l:List Ite}{M:List Int}
def zHz(h:¬segE m k l=0):alE m k l M=segE m k l/\alV m k l M=[]:=by
 have:alE m k l M=segE m k l:=by unfold alE;rw[j8 h]
 refine⟨this,?_⟩;unfold alV;rw[this,j8 h]
def zB1(h:segE m k l=0)(N:(segV m k l).length<=M.length\/okJ (unT m k) k (segV m k l) l M M.length=false):alE m k l M=2/\alV m k l M=[]:=by
 have:alE m k l M=2:=by unfold alE;rw[j7 h,j7 N]
 refine⟨this,?_⟩;unfold alV;rw[this,j8 ac]
def zHA(h:segE m k l=0)(N:¬((segV m k l).length<=M.length\/okJ (unT m k) k (segV m k l) l M M.length=false)):alE m k l M=0/\alV m k l M=alK (unT m k) k (segV m k l) l M M.length:=by
 have:alE m k l M=0:=by unfold alE;rw[j7 h,j8 N]
 refine⟨this,?_⟩;unfold alV;rw[j7 this]
def zHB(h:¬segE m k l=0):apE m k l M=segE m k l/\apV m k l M=[]:=by
 simp_all[apE,apV]
def zB2(h:segE m k l=0)(N:¬(segV m k l).length=M.length\/okJ (unT m k) k (segV m k l) l M M.length=false):apE m k l M=2/\apV m k l M=[]:=by
 simp_all[apE,apV]
def zHC(h:segE m k l=0)(N:¬(¬(segV m k l).length=M.length\/okJ (unT m k) k (segV m k l) l M M.length=false)):apE m k l M=0/\apV m k l M=(stK (unT m k) (segV m k l) l M M.length).1:=by
 simp_all[apE,apV]
end
def zhS(m:Mn)(k:Int)(l:List Ite)(M:List Int)(h0:-9223372036854775808<=k)(h1:k<=9223372036854775807)(hl:l.length<=1000000)(N:M.length<=4000000):Fn prog 236 [mnA m,iv k,itsA l,yj M] (.tup [yj (alV m k l M),iv (alE m k l M)]):=by
 by_cases hE:segE m k l=0
 ·by_cases hX:(segV m k l).length<=M.length
  ·obtain⟨e1,e2⟩:=zB1 hE (.inl hX);rw[e1,e2];exact zf0 m k l M h0 h1 hl N hE (ao hX)
  ·by_cases K:okJ (unT m k) k (segV m k l) l M M.length=false
   ·obtain⟨e1,e2⟩:=zB1 hE (.inr K);rw[e1,e2];exact zf1 m k l M h0 h1 hl N hE aj (hok:=K) (hN:=zg0 m k l) (hMS:=aa)
   ·obtain⟨e1,e2⟩:=zHA hE (λh=>h.elim hX K);rw[e1,e2];exact zf2 m k l M h0 h1 hl N hE aj (hok:=by simpa using K) (hN:=zg0 m k l) (hMS:=aa)
 ·obtain⟨e1,e2⟩:=zHz (M:=M) hE;rw[e1,e2];exact zfZ m k l M h0 h1 hl N hE
def zff(m:Mn)(k:Int)(l:List Ite)(M:List Int)(h0:-9223372036854775808<=k)(h1:k<=9223372036854775807)(hl:l.length<=1000000)(K:M.length<=4000000):Fn prog 201 [mnA m,iv k,itsA l,yj M] (.tup [itsA (apV m k l M),iv (apE m k l M)]):=by
 by_cases hE:segE m k l=0
 ·by_cases hX:(segV m k l).length=M.length
  ·by_cases N:okJ (unT m k) k (segV m k l) l M M.length=false
   ·obtain⟨e1,e2⟩:=zB2 hE (.inr N);rw[e1,e2];exact zhQ m k l M h0 h1 hl K hE aj (hok:=N) (hN:=zg0 m k l) (hMS:=aa)
   ·obtain⟨e1,e2⟩:=zHC hE (λh=>h.elim (λg=>g hX) N);rw[e1,e2];exact zhR m k l M h0 h1 hl K hE aj (hok:=by simpa using N) (hN:=zg0 m k l) (hMS:=aa)
  ·obtain⟨e1,e2⟩:=zB2 hE (.inl hX);rw[e1,e2];exact zhP m k l M h0 h1 hl K hE aj
 simp_all[zHB,zhO]
end
section
variable{A L:List Int}{c k:Int}{l:List Ite}{m:Mn}{n:Nat}{s:Sgm}
def wnL(s:Sgm):List Int:=
 if s.Free=true then[1,0]else if s.Count.N%3=0 then[0]else if s.Count.N%3=1 then[1,2]else if s.Count.N=2 then[4,3]else[3,4]
def chF(s:Sgm)(A:List Int):Option Int:=(wnL s).find? λc=>decide (c∈A)
def zuc(h:chF s A=some c):c∈A:=by
 have:=List.find?_some h;simpa using this
def zud(s:Sgm):∀c∈wnL s,0<=c/\c<=4:=by
 grind[wnL]
theorem zzj(h:chF s A=some c):0<=c/\c<=4:=zud s c (List.mem_of_find?_eq_some h)
def mdJ(u:Tm)(k:Int)(S:List Sgm)(l:List Ite):Nat->Option (List Int)
 |0=>some []
 |n+1=>match mdJ u k S l n with
  |none=>none
  |some M=>match chF (S.getD n default) (alK u k S l M n)with
   |none=>none
   |some c=>some (M++[c])
section
variable{u:Tm}{k:Int}{S:List Sgm}{l:List Ite}
variable{M:List Int}{n:Nat}
def zrv(h:mdJ u k S l n=some M):mdJ u k S l (n+1)=match chF (S.getD n default) (alK u k S l M n)with
 |none=>none
 |some c=>some (M++[c]):=by simp_all[mdJ]
def zmz{n:Nat}(h:mdJ u k S l n=none):∀j,mdJ u k S l (n+j)=none
 |0=>h
 |j+1=>by
  show mdJ u k S l (n+j+1)=none;unfold mdJ;rw[zmz h j]
def zoU(M M2:List Int):∀n,n<=M.length->stK u S l (M++M2) n=stK u S l M n
 |0,_=>rfl
 |n+1,h=>by
  rw[zmo,zmo,zoU M M2 n aa]
  grind
def zie(M M2:List Int)(h:n<=M.length):alK u k S l (M++M2) n=alK u k S l M n:=by
 unfold alK;rw[zoU M M2 n h]
def zif(M M2:List Int):∀n,n<=M.length->okJ u k S l (M++M2) n=okJ u k S l M n
 |0,_=>rfl
 |n+1,h=>by
  show(okJ u k S l (M++M2) n&&decide ((M++M2).getD n 0∈alK u k S l (M++M2) n))=(okJ u k S l M n&&decide (M.getD n 0∈alK u k S l M n));rw[zif M M2 n aa,zie M M2 aa]
  grind
def zg1:∀{n:Nat}{M:List Int},mdJ u k S l n=some M->M.length=n/\okJ u k S l M n=true/\∀c∈M,0<=c/\c<=4
 |0,M,h=>by
  grind[mdJ,okJ]
 |n+1,M,h=>by
  cases hm:mdJ u k S l n with
  |none=>simp_all[mdJ]
  |some M1=>
   rw[zrv hm]at h;obtain⟨i1,i2,i3⟩:=zg1 hm;cases N:chF (S.getD n default) (alK u k S l M1 n)with
   |none=>grind
   |some c=>
    rw[N]at h;have:M1++[c]=M:=by injection h
    subst this;refine⟨by simp[i1],?_,?_⟩
    ·show(okJ u k S l (M1++[c]) n&&decide ((M1++[c]).getD n 0∈alK u k S l (M1++[c]) n))=true;rw[zif M1 [c] n aa,zie M1 [c] aa,i2]
     have:(M1++[c]).getD n 0=c:=by
      rw[jB,wC aa,show n-M1.length=0 by omega];rfl
     rw[this,Bool.true_and,x8];exact zuc N
    grind[zzj]
end
def cuO(m:Mn)(k:Int)(l:List Ite):Option (List Int):=mdJ (unT m k) k (segV m k l) l (segV m k l).length
def cuE(m:Mn)(k:Int)(l:List Ite):Int:=if segE m k l=0 then(if(cuO m k l).isSome then 0 else 14)else segE m k l
def cuV(m:Mn)(k:Int)(l:List Ite):List Int:=if cuE m k l=0 then(cuO m k l).getD []else[]
def zrw(h:cuE m k l=0):segE m k l=0/\cuO m k l=some (cuV m k l):=by
 have N:=h;unfold cuE at h;split at h
 ·rename_i h0;refine⟨h0,?_⟩;unfold cuV;rw[j7 N];cases ho:cuO m k l with
  |none=>rw[ho]at h;simp at h
  |some M=>rfl
 omega
def zmA(h:cuE m k l=0):apE m k l (cuV m k l)=0:=by
 obtain⟨h0,h1⟩:=zrw h;unfold cuO at h1;obtain⟨i1,i2,i3⟩:=zg1 h1;simp_all[apE]
def lvF(m:Mn):List Int->List Ite->List Int->List Int×List Ite×Int
 |[],l,C=>(C,l,0)
 |k::r,l,C=>if cuE m k l=0 then lvF m r (apV m k l (cuV m k l)) (C++cuV m k l)else([],[],cuE m k l)
def zmB(h:L[n]? =some k)(l:List Ite)(C:List Int):
 lvF m (L.drop n) l C=if cuE m k l=0 then lvF m (L.drop (n+1)) (apV m k l (cuV m k l)) (C++cuV m k l)else([],[],cuE m k l):=by
 grind[List.drop_eq_getElem_cons,lvF]
def leE(m:Mn)(l:List Ite):Int:=if ckM m=0 then(if ckIE l=0 then(lvF m (perfL m) l []).2.2 else ckIE l)else ckM m
def leC(m:Mn)(l:List Ite):List Int:=if leE m l=0 then(lvF m (perfL m) l []).1 else[]
def leI(m:Mn)(l:List Ite):List Ite:=if leE m l=0 then(lvF m (perfL m) l []).2.1 else[]
structure Rdg where
 Dots:List Int
 Minor:List Int
 Choices:List Int
 Durs:List Tm
 deriving DecidableEq
instance:Inhabited Rdg:=⟨⟨[],[],[],[]⟩⟩
def rdgE(r:Rdg):List AV:=[yj r.Dots,yj r.Minor,yj r.Choices,tmsA r.Durs]
abbrev rdgA(r:Rdg):AV:=.agg (rdgE r)
end
section
variable{A L:List Int}{c:Int}{j:Nat}
instance:ZcK prog 452 [.nilf,.int .i64 0,.int .i64 0]:=⟨⟨_,zFa,rfl⟩⟩
def ziR(N:L[j]? =some c)(K:c∈A)(h:∀i:Nat,i<j->∀d,L[i]? =some d->d∉A):L.find? (λc=>decide (c∈A))=some c:=by
 rw[List.find?_eq_some_iff_append];refine⟨by simpa using K,L.take j,L.drop (j+1),?_,λa H=>?_⟩
 ·have hl:=(j5.1 N);rw[←hl.2,List.getElem_cons_drop,wV]
 ·obtain⟨i,hi,e⟩:=List.getElem_of_mem H;rw[jO]at hi;have:=h i aa a (by rw[←e,List.getElem_take,lgg]);simpa using this
def zf3(h:∀i:Nat,i<L.length->∀d,L[i]? =some d->d∉A):L.find? (λc=>decide (c∈A))=none:=by
 rw[List.find?_eq_none];intro c N;obtain⟨i,hi,e⟩:=List.getElem_of_mem N;have:=h i hi c (by rw[←e,lgg]);simpa using this
def zf4(K:L[j]? =some c)(H:c∉A)(h:∀i:Nat,i<j->∀d,L[i]? =some d->d∉A):∀i:Nat,i<j+1->∀d,L[i]? =some d->d∉A:=by
 intro i hi d N;by_cases e:i=j
 ·subst e;rw[K]at N;injection N with N;subst N;exact H
 ·exact h i aa d N
def zrx(p:Int->Bool)(a:Int):[a,a].find? p=[a].find? p:=by
 simp only[List.find?];cases p a<;>rfl
def zbO(s:Sgm)(n:Int)(hN:0<=s.Count.N):Fn prog 326 [smA s,.ept (λ_:Unit=>[iv n]) () 0] (.bool (decide (s.Count.N%3=n))):=by
 refine bB func326 ntmps326 (λg w d=>?_);refine gq ?_;all_goals exact zR
def zcv(n:Int):Fn prog 325 [iv n] (.fn 326 [.ept (λ_:Unit=>[iv n]) () 0]):=by
 refine bB func325 ntmps325 (λg w d=>?_);apply yc;refine zax ?_;refine ya ?_;apply yp;refine yC ?_;refine bC ?_;refine yi (bG (k:=1) rfl rfl) ?_;refine gq ?_;all_goals exact zR
def ziS(s:Sgm):Fn prog 327 [smA s] (.bool s.Free):=by
 refine bB func327 ntmps327 (λg w d=>?_);refine gq ?_;all_goals exact zR
def ziT(s:Sgm):Fn prog 328 [smA s] (.bool (decide (s.Count.N=2))):=by
 refine bB func328 ntmps328 (λg w d=>?_);refine gq ?_;all_goals exact zR
def zlr:Fn prog 268 [] (.agg [.fn 327 [],iv 1,iv 0,.fn 326 [.ept (λ_:Unit=>[iv 0]) () 0],iv 0,iv 0,.fn 326 [.ept (λ_:Unit=>[iv 1]) () 0],iv 1,iv 2,.fn 328 [],iv 4,iv 3,.fn 326 [.ept (λ_:Unit=>[iv 2]) () 0],iv 3,iv 4]):=by
 refine bB func268 ntmps268 (λg w d=>?_);refine gc (zcv 0) ?_;refine gc (zcv 1) ?_;refine gc (zcv 2) ?_;refine bJ (.one (.cellA rfl rfl rfl rfl zx4 (kZ ?_)));all_goals exact zR
attribute [local irreducible] chF wnL
def zjT(s:Sgm)(A:List Int)(hN:0<=s.Count.N)(hA:A.length<=1000000):Fn prog 237 [smA s,yj A] (.tup [iv ((chF s A).getD 0),.bool (chF s A).isSome]):=by
 refine bB func237 ntmps237 (λg w d=>?_);refine gq ?_;refine zf zlr ?_;refine yk ?_;apply kX;refine zoe (λn=>[(1,yj A),(2,.ptr 2 0 0 0),(4,iv 0),(5,.bool false),(10,.agg [.fn 327 [],iv 1,iv 0,.fn 326 [.ept (λ_:Unit=>[iv 0]) () 0],iv 0,iv 0,.fn 326 [.ept (λ_:Unit=>[iv 1]) () 0],iv 1,iv 2,.fn 328 [],iv 4,iv 3,.fn 326 [.ept (λ_:Unit=>[iv 2]) () 0],iv 3,iv 4]),(11,iv (n:Int))]) (λn=>[(2,.box (smE s) 403)]) (λn=>n<=5/\(1<=n->¬s.Free=true)/\(2<=n->¬s.Count.N%3=0)/\(3<=n->¬s.Count.N%3=1)/\(4<=n->¬s.Count.N=2)/\(5<=n->¬s.Count.N%3=2)) 5 (λn hk=>?_) (hJ:=by exact⟨aa,aa,aa,aa,aa,aa⟩) (h0:=yh);obtain⟨k4,E,v9,v8,v4,v5⟩:=hk;refine gd ?_ ?_<;>intro k3
 ·apply yf;apply ye;apply kX;apply ye;obtain hn|hn|hn|hn|hn:n=0\/n=1\/n=2\/n=3\/n=4:=aa
  ·have xT:(([.fn 327 [],iv 1,iv 0,.fn 326 [.ept (λ_:Unit=>[iv 0]) () 0],iv 0,iv 0,.fn 326 [.ept (λ_:Unit=>[iv 1]) () 0],iv 1,iv 2,.fn 328 [],iv 4,iv 3,.fn 326 [.ept (λ_:Unit=>[iv 2]) () 0],iv 3,iv 4]:List AV).drop (((n:Nat):Int).toNat*3)).take 3=[.fn 327 [],iv 1,iv 0]:=by rw[hn];rfl
   apply yd;refine ya (hs:=by exact zO ArK.h TyK.h rfl rfl aa aa xT) ?_;refine gc (ziS s) ?_;refine gd ?_ ?_<;>intro x1
   ·have k2:¬s.Free=true:=by first|exact x1|(rw[x1];decide)|(simp at x1;simp[x1];done)|omega
    refine gq ?_
    refine yr (n+1) (hJ:=by
     refine⟨aa,?_,?_,?_,?_,?_⟩<;>intro h6<;>first|assumption|(exact absurd h6 aa)|(exact E aa)|(exact v9 aa)|(exact v8 aa)|(exact v4 aa)|(exact v5 aa))
   have hy:s.Free=true:=by first|exact x1|(simp at x1;exact x1)|omega
   have hW:(wnL s).find? (λc=>decide (c∈A))=[(1:Int),0].find? (λc=>decide (c∈A)):=by
    have h0:=E;rw[show wnL s=[1,0]by unfold wnL;simp_all]
   refine gq ?_;refine yH intE [_,_] ?_;refine yC ?_;apply kX;refine zoe (λj=>[(1,yj A),(2,.ptr 2 0 0 0),(4,iv 0),(5,.bool false),(10,.agg [.fn 327 [],iv 1,iv 0,.fn 326 [.ept (λ_:Unit=>[iv 0]) () 0],iv 0,iv 0,.fn 326 [.ept (λ_:Unit=>[iv 1]) () 0],iv 1,iv 2,.fn 328 [],iv 4,iv 3,.fn 326 [.ept (λ_:Unit=>[iv 2]) () 0],iv 3,iv 4]),(11,iv (n:Int)),(23,.own 23),(24,iv 2),(25,iv (j:Int))]) (λj=>[(2,.box (smE s) 403),(23,.row intE [1,0] 3 1)]) (λj=>j<=2/\∀i:Nat,i<j->∀d,([1,0]:List Int)[i]? =some d->d∉A) 2 (λj hk=>?_) (hJ:=by exact⟨aa,λi hi=>absurd hi aa⟩) (h0:=yh);obtain⟨v2,K⟩:=hk;refine gd ?_ ?_<;>intro j4
   ·obtain⟨x,hx⟩:∃x,([1,0]:List Int)[j]? =some x:=⟨_,lgg aj⟩;have v3:([1,0]:List Int)[(j:Int).toNat]? =some x:=ao hx
    refine gc (yQ A x aa) ?_;refine gd ?_ ?_<;>intro k8
    ·have hE:chF s A=some x:=by unfold chF;rw[hW];exact ziR hx (ao k8) K
     refine gq ?_;refine yn ?_ ?_;all_goals exact zE hE
    refine gq ?_;refine yr (j+1) (hJ:=by exact⟨aa,zf4 hx (ao k8) K⟩)
   ·have x2:j=2:=aa
    subst x2;have hE:chF s A=none:=by unfold chF;rw[hW];exact zf3 K
    refine gq ?_;refine yn ?_ ?_;all_goals exact zE hE
  ·have xT:(([.fn 327 [],iv 1,iv 0,.fn 326 [.ept (λ_:Unit=>[iv 0]) () 0],iv 0,iv 0,.fn 326 [.ept (λ_:Unit=>[iv 1]) () 0],iv 1,iv 2,.fn 328 [],iv 4,iv 3,.fn 326 [.ept (λ_:Unit=>[iv 2]) () 0],iv 3,iv 4]:List AV).drop (((n:Nat):Int).toNat*3)).take 3=[.fn 326 [.ept (λ_:Unit=>[iv 0]) () 0],iv 0,iv 0]:=by rw[hn];rfl
   apply yd;refine ya (hs:=by exact zO ArK.h TyK.h rfl rfl aa aa xT) ?_;refine gc (zbO s 0 hN) ?_;refine gd ?_ ?_<;>intro x0
   ·have j3:¬s.Count.N%3=0:=by first|exact x0|(rw[x0];decide)|(simp at x0;simp[x0];done)|omega
    refine gq ?_
    refine yr (n+1) (hJ:=by
     refine⟨aa,?_,?_,?_,?_,?_⟩<;>intro h6<;>first|assumption|(exact absurd h6 aa)|(exact E aa)|(exact v9 aa)|(exact v8 aa)|(exact v4 aa)|(exact v5 aa))
   have hy:s.Count.N%3=0:=by first|exact x0|(simp at x0;exact x0)|omega
   have hW:(wnL s).find? (λc=>decide (c∈A))=[(0:Int),0].find? (λc=>decide (c∈A)):=by
    have h0:=E;rw[zrx,show wnL s=[0]by unfold wnL;simp_all]
   refine gq ?_;refine yH intE [_,_] ?_;refine yC ?_;apply kX;refine zoe (λj=>[(1,yj A),(2,.ptr 2 0 0 0),(4,iv 0),(5,.bool false),(10,.agg [.fn 327 [],iv 1,iv 0,.fn 326 [.ept (λ_:Unit=>[iv 0]) () 0],iv 0,iv 0,.fn 326 [.ept (λ_:Unit=>[iv 1]) () 0],iv 1,iv 2,.fn 328 [],iv 4,iv 3,.fn 326 [.ept (λ_:Unit=>[iv 2]) () 0],iv 3,iv 4]),(11,iv (n:Int)),(23,.own 23),(24,iv 2),(25,iv (j:Int))]) (λj=>[(2,.box (smE s) 403),(23,.row intE [0,0] 3 1)]) (λj=>j<=2/\∀i:Nat,i<j->∀d,([0,0]:List Int)[i]? =some d->d∉A) 2 (λj hk=>?_) (hJ:=by exact⟨aa,λi hi=>absurd hi aa⟩) (h0:=yh);obtain⟨v2,K⟩:=hk;refine gd ?_ ?_<;>intro j2
   ·obtain⟨x,hx⟩:∃x,([0,0]:List Int)[j]? =some x:=⟨_,lgg aj⟩;have v3:([0,0]:List Int)[(j:Int).toNat]? =some x:=ao hx
    refine gc (yQ A x aa) ?_;refine gd ?_ ?_<;>intro k7
    ·have hE:chF s A=some x:=by unfold chF;rw[hW];exact ziR hx (ao k7) K
     refine gq ?_;refine yn ?_ ?_;all_goals exact zE hE
    refine gq ?_;refine yr (j+1) (hJ:=by exact⟨aa,zf4 hx (ao k7) K⟩)
   ·have x2:j=2:=aa
    subst x2;have hE:chF s A=none:=by unfold chF;rw[hW];exact zf3 K
    refine gq ?_;refine yn ?_ ?_;all_goals exact zE hE
  ·have xT:(([.fn 327 [],iv 1,iv 0,.fn 326 [.ept (λ_:Unit=>[iv 0]) () 0],iv 0,iv 0,.fn 326 [.ept (λ_:Unit=>[iv 1]) () 0],iv 1,iv 2,.fn 328 [],iv 4,iv 3,.fn 326 [.ept (λ_:Unit=>[iv 2]) () 0],iv 3,iv 4]:List AV).drop (((n:Nat):Int).toNat*3)).take 3=[.fn 326 [.ept (λ_:Unit=>[iv 1]) () 0],iv 1,iv 2]:=by rw[hn];rfl
   apply yd;refine ya (hs:=by exact zO ArK.h TyK.h rfl rfl aa aa xT) ?_;refine gc (zbO s 1 hN) ?_;refine gd ?_ ?_<;>intro w2
   ·have v3:¬s.Count.N%3=1:=by first|exact w2|(rw[w2];decide)|(simp at w2;simp[w2];done)|omega
    refine gq ?_
    refine yr (n+1) (hJ:=by
     refine⟨aa,?_,?_,?_,?_,?_⟩<;>intro h6<;>first|assumption|(exact absurd h6 aa)|(exact E aa)|(exact v9 aa)|(exact v8 aa)|(exact v4 aa)|(exact v5 aa))
   have hy:s.Count.N%3=1:=by first|exact w2|(simp at w2;exact w2)|omega
   have hW:(wnL s).find? (λc=>decide (c∈A))=[(1:Int),2].find? (λc=>decide (c∈A)):=by
    have h0:=E;rw[show wnL s=[1,2]by unfold wnL;simp_all]
   refine gq ?_;refine yH intE [_,_] ?_;refine yC ?_;apply kX;refine zoe (λj=>[(1,yj A),(2,.ptr 2 0 0 0),(4,iv 0),(5,.bool false),(10,.agg [.fn 327 [],iv 1,iv 0,.fn 326 [.ept (λ_:Unit=>[iv 0]) () 0],iv 0,iv 0,.fn 326 [.ept (λ_:Unit=>[iv 1]) () 0],iv 1,iv 2,.fn 328 [],iv 4,iv 3,.fn 326 [.ept (λ_:Unit=>[iv 2]) () 0],iv 3,iv 4]),(11,iv (n:Int)),(23,.own 23),(24,iv 2),(25,iv (j:Int))]) (λj=>[(2,.box (smE s) 403),(23,.row intE [1,2] 3 1)]) (λj=>j<=2/\∀i:Nat,i<j->∀d,([1,2]:List Int)[i]? =some d->d∉A) 2 (λj hk=>?_) (hJ:=by exact⟨aa,λi hi=>absurd hi aa⟩) (h0:=yh);obtain⟨v2,K⟩:=hk;refine gd ?_ ?_<;>intro j1
   ·obtain⟨x,hx⟩:∃x,([1,2]:List Int)[j]? =some x:=⟨_,lgg aj⟩;have v3:([1,2]:List Int)[(j:Int).toNat]? =some x:=ao hx
    refine gc (yQ A x aa) ?_;refine gd ?_ ?_<;>intro v1
    ·have hE:chF s A=some x:=by unfold chF;rw[hW];exact ziR hx (ao v1) K
     refine gq ?_;refine yn ?_ ?_;all_goals exact zE hE
    refine gq ?_;refine yr (j+1) (hJ:=by exact⟨aa,zf4 hx (ao v1) K⟩)
   ·have x2:j=2:=aa
    subst x2;have hE:chF s A=none:=by unfold chF;rw[hW];exact zf3 K
    refine gq ?_;refine yn ?_ ?_;all_goals exact zE hE
  ·have xT:(([.fn 327 [],iv 1,iv 0,.fn 326 [.ept (λ_:Unit=>[iv 0]) () 0],iv 0,iv 0,.fn 326 [.ept (λ_:Unit=>[iv 1]) () 0],iv 1,iv 2,.fn 328 [],iv 4,iv 3,.fn 326 [.ept (λ_:Unit=>[iv 2]) () 0],iv 3,iv 4]:List AV).drop (((n:Nat):Int).toNat*3)).take 3=[.fn 328 [],iv 4,iv 3]:=by rw[hn];rfl
   apply yd;refine ya (hs:=by exact zO ArK.h TyK.h rfl rfl aa aa xT) ?_;refine gc (ziT s) ?_;refine gd ?_ ?_<;>intro H
   ·have j0:¬s.Count.N=2:=by first|exact H|(rw[H];decide)|(simp at H;simp[H];done)|omega
    refine gq ?_
    refine yr (n+1) (hJ:=by
     refine⟨aa,?_,?_,?_,?_,?_⟩<;>intro h6<;>first|assumption|(exact absurd h6 aa)|(exact E aa)|(exact v9 aa)|(exact v8 aa)|(exact v4 aa)|(exact v5 aa))
   have hy:s.Count.N=2:=by first|exact H|(simp at H;exact H)|omega
   have hW:(wnL s).find? (λc=>decide (c∈A))=[(4:Int),3].find? (λc=>decide (c∈A)):=by
    have h0:=E;rw[show wnL s=[4,3]by unfold wnL;simp_all]
   refine gq ?_;refine yH intE [_,_] ?_;refine yC ?_;apply kX;refine zoe (λj=>[(1,yj A),(2,.ptr 2 0 0 0),(4,iv 0),(5,.bool false),(10,.agg [.fn 327 [],iv 1,iv 0,.fn 326 [.ept (λ_:Unit=>[iv 0]) () 0],iv 0,iv 0,.fn 326 [.ept (λ_:Unit=>[iv 1]) () 0],iv 1,iv 2,.fn 328 [],iv 4,iv 3,.fn 326 [.ept (λ_:Unit=>[iv 2]) () 0],iv 3,iv 4]),(11,iv (n:Int)),(23,.own 23),(24,iv 2),(25,iv (j:Int))]) (λj=>[(2,.box (smE s) 403),(23,.row intE [4,3] 3 1)]) (λj=>j<=2/\∀i:Nat,i<j->∀d,([4,3]:List Int)[i]? =some d->d∉A) 2 (λj hk=>?_) (hJ:=by exact⟨aa,λi hi=>absurd hi aa⟩) (h0:=yh);obtain⟨v2,K⟩:=hk;refine gd ?_ ?_<;>intro k6
   ·obtain⟨x,hx⟩:∃x,([4,3]:List Int)[j]? =some x:=⟨_,lgg aj⟩;have v3:([4,3]:List Int)[(j:Int).toNat]? =some x:=ao hx
    refine gc (yQ A x aa) ?_;refine gd ?_ ?_<;>intro v0
    ·have hE:chF s A=some x:=by unfold chF;rw[hW];exact ziR hx (ao v0) K
     refine gq ?_;refine yn ?_ ?_;all_goals exact zE hE
    refine gq ?_;refine yr (j+1) (hJ:=by exact⟨aa,zf4 hx (ao v0) K⟩)
   ·have x2:j=2:=aa
    subst x2;have hE:chF s A=none:=by unfold chF;rw[hW];exact zf3 K
    refine gq ?_;refine yn ?_ ?_;all_goals exact zE hE
  ·have xT:(([.fn 327 [],iv 1,iv 0,.fn 326 [.ept (λ_:Unit=>[iv 0]) () 0],iv 0,iv 0,.fn 326 [.ept (λ_:Unit=>[iv 1]) () 0],iv 1,iv 2,.fn 328 [],iv 4,iv 3,.fn 326 [.ept (λ_:Unit=>[iv 2]) () 0],iv 3,iv 4]:List AV).drop (((n:Nat):Int).toNat*3)).take 3=[.fn 326 [.ept (λ_:Unit=>[iv 2]) () 0],iv 3,iv 4]:=by rw[hn];rfl
   apply yd;refine ya (hs:=by exact zO ArK.h TyK.h rfl rfl aa aa xT) ?_;refine gc (zbO s 2 hN) ?_;refine gd ?_ ?_<;>intro G
   ·have hZ:¬s.Count.N%3=2:=by first|exact G|(rw[G];decide)|(simp at G;simp[G];done)|omega
    refine gq ?_
    refine yr (n+1) (hJ:=by
     refine⟨aa,?_,?_,?_,?_,?_⟩<;>intro h6<;>first|assumption|(exact absurd h6 aa)|(exact E aa)|(exact v9 aa)|(exact v8 aa)|(exact v4 aa)|(exact v5 aa))
   have hy:s.Count.N%3=2:=by first|exact G|(simp at G;exact G)|omega
   have hW:(wnL s).find? (λc=>decide (c∈A))=[(3:Int),4].find? (λc=>decide (c∈A)):=by
    have h0:=E;rw[show wnL s=[3,4]by unfold wnL;simp_all]
   refine gq ?_;refine yH intE [_,_] ?_;refine yC ?_;apply kX;refine zoe (λj=>[(1,yj A),(2,.ptr 2 0 0 0),(4,iv 0),(5,.bool false),(10,.agg [.fn 327 [],iv 1,iv 0,.fn 326 [.ept (λ_:Unit=>[iv 0]) () 0],iv 0,iv 0,.fn 326 [.ept (λ_:Unit=>[iv 1]) () 0],iv 1,iv 2,.fn 328 [],iv 4,iv 3,.fn 326 [.ept (λ_:Unit=>[iv 2]) () 0],iv 3,iv 4]),(11,iv (n:Int)),(23,.own 23),(24,iv 2),(25,iv (j:Int))]) (λj=>[(2,.box (smE s) 403),(23,.row intE [3,4] 3 1)]) (λj=>j<=2/\∀i:Nat,i<j->∀d,([3,4]:List Int)[i]? =some d->d∉A) 2 (λj hk=>?_) (hJ:=by exact⟨aa,λi hi=>absurd hi aa⟩) (h0:=yh);obtain⟨v2,K⟩:=hk;refine gd ?_ ?_<;>intro k5
   ·obtain⟨x,hx⟩:∃x,([3,4]:List Int)[j]? =some x:=⟨_,lgg aj⟩;have v3:([3,4]:List Int)[(j:Int).toNat]? =some x:=ao hx
    refine gc (yQ A x aa) ?_;refine gd ?_ ?_<;>intro k9
    ·have hE:chF s A=some x:=by unfold chF;rw[hW];exact ziR hx (ao k9) K
     refine gq ?_;refine yn ?_ ?_;all_goals exact zE hE
    refine gq ?_;refine yr (j+1) (hJ:=by exact⟨aa,zf4 hx (ao k9) K⟩)
   ·have x2:j=2:=aa
    subst x2;have hE:chF s A=none:=by unfold chF;rw[hW];exact zf3 K
    refine gq ?_;refine yn ?_ ?_;all_goals exact zE hE
 ·exfalso;have a:=v9 aa;have b:=v8 aa;have c:=v5 aa;omega
end
section
attribute [local irreducible] stK okJ alK alQ chN chL segV segE unT
def zf5(m:Mn)(k:Int)(l:List Ite)(M:List Int)(h0:-9223372036854775808<=k)(h1:k<=9223372036854775807)(hl:l.length<=1000000)(hM:M.length<=4000000)(hE:segE m k l=0)(hX:(decide (((segV m k l).length:Int)<=(M.length:Int)))=false)(hok:okJ (unT m k) k (segV m k l) l M M.length=true)(hN:∀s∈segV m k l,0<=s.Count.N)(hMS:M.length<=(segV m k l).length):FnO prog 236 [mnA m,iv k,itsA l,yj M] [] [] (.tup [.own 42,iv 0]) [(42,.row intE (alK (unT m k) k (segV m k l) l M M.length) 3 1)]:=by
 have x0:=za8 m k l;have hu:=ziD (ziG hE).1;have H:=zdB hE;obtain⟨s,hs⟩:∃s,(segV m k l)[M.length]? =some s:=⟨_,lgg (by simp at hX;omega)⟩;have w2:(segV m k l)[(M.length:Int).toNat]? =some s:=ao hs
 have G:=H.all s (j6 hs);have E:=zii G.b (zcP (unT m k) (segV m k l) l M M.length);have xT:=hN s (j6 hs);have v9:=zcP (unT m k) (segV m k l) l M M.length;have v8:alQ (unT m k) k (stK (unT m k) (segV m k l) l M M.length).1 (stK (unT m k) (segV m k l) l M M.length).2 s=alK (unT m k) k (segV m k l) l M M.length:=by unfold alK;rw[show(segV m k l).getD M.length default=s by rw[jB,hs];rfl]
 refine c8 [] func236 ntmps236 (λg w d vs=>?_);refine gq ?_;refine y0 [(36,2000000),(30,2000001),(34,2000002)] (zF m k l h0 h1 hl hE) ?_;refine gd ?_ ?_<;>intro x2
 ·exact absurd rfl x2
 apply yf;iterate 2 apply ye
 have x1:((decide (((segV m k l).length:Int)<=(M.length:Int)))==false)=true:=by rw[hX];rfl
 ·apply yd;iterate 6 refine ya ?_
  iterate 3 refine zS ?_
  refine zk rfl rfl x1 ?_;refine y0 [(2000000,2000000),(2000001,2000001),(2000002,2000002)] (zay (unT m k) k (segV m k l) l M H hN hMS hl aa aa aa hok) ?_;refine zS ?_;refine gd ?_ ?_<;>intro K
  ·first|(exact absurd K.2 ac)|(cases K;done)|(exact absurd K (by simp[hX]))|(simp[hX]at K;done)|(rcases K with h|h<;>first|(cases h;done)|(exact absurd h (ao hX))|(simp[hX]at h;done)|(exact absurd h ac))
  refine gq ?_;refine bP (zgQ (ι:=Nat) (stF:=λb=>⟨[(36,.ept (λ_:Unit=>[.sl itE (stK (unT m k) (segV m k l) l M M.length).1,iv k,iv (unT m k).N,iv (unT m k).D,.val (.map (some b))]) () 0),(41,smA s)],[]⟩) 42 (λg a w hr=>zpU (k:=2000002) rfl (λb=>(kY (k:=2000001) rfl).trans ((bG (k:=2000000) rfl rfl).trans yh)) (λ_=>rfl) (λ_=>rfl) hr) (λb=>zap (stK (unT m k) (segV m k l) l M M.length).1 k (unT m k) b (stK (unT m k) (segV m k l) l M M.length).2 s E aa aa aa xT)) rfl rfl ?_;refine yC ?_;refine bC ?_;refine zhp (st':=⟨[(8,.own 42),(9,iv 0)],[(1000001,.hold vs []),(42,.row intE (alK (unT m k) k (segV m k l) l M M.length) 3 1)]⟩) (by first|exact yh|exact kW) ?_;refine znf.mk [(8,.own 42),(9,iv 0)] [] (.inr rfl) (.many ac (.cons (.tmp rfl (kZ ?_)) (.cons (.tmp rfl (kZ ?_)) .nil)));all_goals rfl
end
end Go.Rse
namespace Go.Rse
open Go Go.RowKit Go.Proofs.Tryz
section
variable{P:Program}{C:Ctx}{st:St}{ty:TypeId}
def zue{fop:Operand}{args:Array Operand}{ts:Array TypeId}{f:FuncId}{caps xs az fl:List AV}{α:Type}{enc:α->List AV}{l:List α}{E s q:Nat}{stF:St}(k:Nat)(hi:Imp C st stF)(h:FnO P f az [] [] (.tup (.own q::fl)) [(q,.row enc l E s)])
 (k8:∀x,AV.flat.flatL (enc x)=true:=by intro x;rfl)(k7:AV.flat.flatL fl=true:=by rfl)(hf:ev stF fop=some (.fn f caps):=by rfl)(hx:evs stF args.toList=some xs:=by rfl)(k6:LeL (xs++caps) az:=by exact bK _):
 yy P C (.call {callee:=.value fop,args:=args,argTypes:=ts}) ty st (.tup (.own k::fl)) (some (k,.row enc l E s)):=λg a w dst pos af gd xT K hK=>by
 obtain⟨gF,G⟩:=hi g a w xT;obtain⟨us,e,k5,hu⟩:=zcE (yq G hf);have x2:=zdP G hx;have v9:RVL gF.I gF.ρ az (args.toList.map a.eval++us):=k6.rvl (x2.append ⟨k5,hu⟩);obtain⟨dc,v8,_⟩:=zcI gF.O w.heap.size [] G.sat.ob.1;have h0:=h.2 dc gF.ρ gF.I gF.O w _ ⟨G.sat.im,G.sat.ob,λk B hB=>by simp[lk]at hB⟩ v9;have e1:(args.toList.map a.eval++us).toArray=args.map a.eval++us.toArray:=by simp[←Array.toList_map]
 rw[e1]at h0
 have e2:(execOp a.eval {dst:=dst,op:=.call {callee:=.value fop,args:=args,argTypes:=ts},type:=ty,pos:=pos,after:=af,guard:=gd}).run P w=.ok (.enter f (args.map a.eval++us.toArray)) w:=by
  simp only[execOp,resolve,e,Deferred.ofValue,jM,jP,jH,invoke,zN h.1];simp
 unfold wp1;rw[e2];refine Calls.mono h0 ?_
 rintro e w'⟨v,ρ',I',O',rfl,hs,hv,N,_⟩
 refine⟨v,rfl,?_⟩
 have x1:Grow w w':=⟨N.os,N.tape,N.output,N.drawn,N.size,λb H=>(N.keep b H (λhk=>by
  rcases hk with hk|⟨n,hk⟩
  ·exact absurd hk (kH.2 H)
  ·exact v8 b n hk) (λ⟨y,n,hy,_⟩=>by simp at hy)).1⟩
 cases hv with
 |tup _ vs hl v5=>
 cases vs with
 |nil=>simp at hl
 |cons v0 vr=>
 have k4:RV I' ρ' (.own q) v0:=v5 0 _ _ (by rfl) (by rfl);let g3:Gh:={ρ:=λn=>if n=k then v0 else g.ρ n,I:=g.I,O:=λb=>if b<w.heap.size then g.O b else(match O' b with|some (y,n)=>if y=dc/\n=q then some (C.d,k)else none|none=>none)};have v4:∀b,b<w.heap.size->g3.O b=g.O b:=λb H=>by simp[g3,H]
 have x0:ρ' q=v0:=zn k4;obtain⟨xs',p1,p2,p3,p4⟩:=hs.blk q (.row enc l E s) (by simp[ym])
 have v3:∀b,yT (ρ' q)=some b->O' b=some (dc,q)/\w.heap.size<=b:=λb H=>by
  obtain⟨q1,q2⟩:=p4 b H;refine⟨q1,?_⟩;rcases q2 with q2|⟨n,q2⟩
  ·exact q2
  ·exact absurd q2 (v8 b n)
 have k3:ImOB g3 w':=by
  refine⟨λb o u hI=>?_,λb p hO=>?_,xT.sat.ob.2⟩
  ·obtain⟨q1,q2⟩:=xT.sat.im b o u hI;exact⟨x1.cell q1,by rw[v4 b (zch q1)];exact q2⟩
  ·rcases wH b w.heap.size with H|H
   ·exact w7 H x1.size
   ·simp only[g3,Nat.not_lt.2 H,if_false]at hO;cases v2:O' b with
    |none=>simp[v2]at hO
    |some q=>exact hs.ob.1 b q v2
 refine hK _ w' g3 ⟨bS _,λn hn=>?_,v4,x1⟩ ?_ k3 (λk' B hB=>?_)
 ·have:n≠k:=λe=>hn (by simp[e])
  simp[g3,this]
 ·refine .tup _ _ (ao hl) (λj c u hc w2=>?_)
  match j with
  |0=>
   simp at hc w2;subst hc;subst w2;rcases p1.2 with⟨e,_⟩|⟨b,cap,cur,e,_⟩<;>
   ·have e:ρ' q=_:=e;rw[x0]at e;rw[e];exact .own k _ _ _ (by simp[g3,e])
  |j+1=>
   have v1:fl[j]? =some c:=ao hc
   exact(v5 (j+1) c u (ao v1) w2).flat (za0 k7 v1)
 ·injection hB with hB;injection hB with e3 e4;subst e3;subst e4;have k9:g3.ρ k=v0:=by simp[g3]
  refine⟨xs',by rw[k9,←x0];exact p1,p2,λj x q c u hx hc hu=>(p3 j x q c u hx hc hu).flat (za0 (k8 x) hc),λb H=>?_⟩;rw[k9,←x0]at H;obtain⟨q1,q2⟩:=v3 b H;refine⟨by simp[g3,Nat.not_lt.2 q2,q1],.inl (jV xT.ext.size q2)⟩
end
end Go.Rse
namespace Go.Rse
open Go Go.Proofs Go.Proofs.Tryz
attribute [local irreducible] Pur yy yu Ex X Fn Imp LeV LeB FnO It yA FnW FnOW
section
def muF(m:Mn)(k:Int)(l:List Ite)(n:Nat):List Int:=(mdJ (unT m k) k (segV m k l) l n).getD []
def muI(m:Mn)(k:Int)(l:List Ite)(n:Nat):Bool:=(mdJ (unT m k) k (segV m k l) l n).isSome
section
variable{m:Mn}{k:Int}{l:List Ite}{n:Nat}
variable{c:Int}{s:Sgm}
def zIn:muF m k l 0=[]:=rfl
def zB3:muI m k l 0=true:=rfl
def zf6(h:muI m k l n=true):mdJ (unT m k) k (segV m k l) l n=some (muF m k l n):=by
 unfold muI at h;obtain⟨M,e⟩:=u9.1 h;unfold muF;rw[e];rfl
def zls(h:muI m k l n=true):(muF m k l n).length=n:=(zg1 (zf6 h)).1
def zB4(h:muI m k l n=true):okJ (unT m k) k (segV m k l) l (muF m k l n) (muF m k l n).length=true:=by
 rw[zls h];exact(zg1 (zf6 h)).2.1
abbrev akF(m:Mn)(k:Int)(l:List Ite)(n:Nat):List Int:=alK (unT m k) k (segV m k l) l (muF m k l n) (muF m k l n).length
def zHD(h:muI m k l n=true)(hs:(segV m k l)[n]? =some s)(N:chF s (akF m k l n)=some c):muI m k l (n+1)=true/\muF m k l n++[c]=muF m k l (n+1):=by
 have h1:=zrv (zf6 h);unfold akF at N;rw[zls h]at N;rw[show(segV m k l).getD n default=s by rw[jB,hs];rfl,N]at h1;unfold muI;rw[h1];refine⟨rfl,?_⟩;conv=>rhs;unfold muF
 rw[h1];rfl
def zHE(h:¬segE m k l=0):cuE m k l=segE m k l/\cuV m k l=[]:=by
 have:cuE m k l=segE m k l:=by unfold cuE;rw[j8 h]
 refine⟨this,?_⟩;unfold cuV;rw[this,j8 h]
def zHF(h0:segE m k l=0)(h:muI m k l n=true)(hs:(segV m k l)[n]? =some s)(N:chF s (akF m k l n)=none):cuE m k l=14/\cuV m k l=[]:=by
 have h1:=zrv (zf6 h);unfold akF at N;rw[zls h]at N;rw[show(segV m k l).getD n default=s by rw[jB,hs];rfl,N]at h1;have hl:=(j5.1 hs).1
 have K:cuO m k l=none:=by
  unfold cuO;have:=zmz h1 ((segV m k l).length-(n+1))
  rwa[show n+1+((segV m k l).length-(n+1))=(segV m k l).length by omega]at this
 have:cuE m k l=14:=by unfold cuE;rw[j7 h0,K];rfl
 refine⟨this,?_⟩;unfold cuV;rw[this];rfl
def zzk(h0:segE m k l=0)(h:muI m k l n=true)(hn:n=(segV m k l).length):cuE m k l=0/\muF m k l n=cuV m k l:=by
 have N:cuO m k l=some (muF m k l n):=by unfold cuO;rw[←hn];exact zf6 h
 have:cuE m k l=0:=by unfold cuE;rw[j7 h0,N];rfl
 refine⟨this,?_⟩;unfold cuV;rw[this,N];rfl
end
def zoV(u:Tm)(k:Int)(S:List Sgm)(l:List Ite)(M:List Int)(n:Nat):(alK u k S l M n).length<=5:=by
 unfold alK alQ alR;simp only[jJ];have h:∀(p:Prop)[Decidable p](x:Int),(if p then[x]else[]).length<=1:=λp _ x=>by split<;>simp
 have a1:=h;refine jV (kU (kU (kU (kU (h _ _) (h _ _)) (h _ _)) (h _ _)) (h _ _)) aa
end
section
variable{A:List Int}{s:Sgm}
def zuf(h:(chF s A).isSome=true):chF s A=some ((chF s A).getD 0):=by
 cases N:chF s A with
 |none=>rw[N]at h;cases h
 |some c=>rfl
attribute [local irreducible] stK okJ alK alQ segV segE unT muF muI chF wnL cuE cuV cuO mdJ
def zfg(m:Mn)(k:Int)(l:List Ite)(h0:-9223372036854775808<=k)(h1:k<=9223372036854775807)(hl:l.length<=1000000):Fn prog 200 [mnA m,iv k,itsA l] (.tup [yj (cuV m k l),iv (cuE m k l)]):=by
 have v5:=za8 m k l;refine bB func200 ntmps200 (λg w d=>?_);refine gc (zaW m k l h0 h1 hl) ?_;refine gd ?_ ?_<;>intro E
 ·have xT:=zHE E;obtain⟨hE,K⟩:=xT;apply yc;refine yo ?_;refine bC ?_;refine yi (yh (ts:=[(6,yj []),(7,iv (segE m k l))]) (hs:=[])) ?_;refine yn ?_ ?_;all_goals(first|exact zE hE|exact zE K|exact jA (λz=>yj z) K|exact jA (λz=>AV.int .i64 z) hE.symm|(with_reducible rfl))
 have H:segE m k l=0:=aa
 have v4:[]=muF m k l 0:=zIn.symm;apply yf;apply yc;refine yk ?_;iterate 2 apply ye
 refine yl (yz intE 3 1 10 5 rfl rfl) ?_;apply yd;refine yo ?_;apply kX;refine zag (ι:=Nat) [1,2,3,10,27,28] (λ(n:Nat)zz=>(29,iv (n:Int))::zz) [3] (λ(n:Nat)zz=>(5,.row intE (muF m k l n) 3 1)::zz) (λ(n:Nat)=>n<=(segV m k l).length/\muI m k l n=true) (λ(n:Nat)=>(segV m k l).length-n) 0 (λn hk=>?_) (hJ:=by exact⟨aa,zB3⟩);obtain⟨v3,N⟩:=hk;refine gd ?_ ?_<;>intro v2
 ·have x2:=@getX _ (segV m k l) n aa;obtain⟨s,hs,v1⟩:=x2;have x1:=zg0 m k l s (j6 hs);have v0:=zls N;have k9:=zoV (unT m k) k (segV m k l) l (muF m k l n) (muF m k l n).length;refine gq ?_;refine bP (zue (stF:=⟨[(34,mnA m),(35,iv k),(36,itsA l),(37,yj (muF m k l n))],[]⟩) 38 ((kY (k:=5) rfl).trans yh) (zf5 m k l (muF m k l n) h0 h1 aa aa (hE:=H) (hX:=aj) (hok:=zB4 N) (hN:=zg0 m k l) (hMS:=aa))) rfl rfl ?_;refine gd ?_ ?_<;>intro x0
  ·exact absurd rfl x0
  apply yf;apply ye;refine yl (kY (k:=38) rfl) ?_;refine gc (zjT s (akF m k l n) x1 (by unfold akF;omega)) ?_;refine gd ?_ ?_<;>intro G
  ·have hC:chF s (akF m k l n)=none:=by first|exact G|simpa using G
   have w2:=zHF H N hs hC;obtain⟨hE,K⟩:=w2;apply yc;refine yC ?_;refine bC ?_;refine yi (yh (ts:=[(6,yj []),(7,iv 14)]) (hs:=[])) ?_;refine yn ?_ ?_;all_goals(first|exact zE hE|exact zE K|exact jA (λz=>yj z) K|exact jA (λz=>AV.int .i64 z) hE.symm|(with_reducible rfl))
  have hC:=zuf G;have v9:=zHD N hs hC;obtain⟨hI,k8⟩:=v9;refine gq ?_;refine yH intE [_] ?_;refine gq ?_;refine yr (n+1) (hJ:=by exact⟨aa,hI⟩) (hI:=kW)
 ·have hn:n=(segV m k l).length:=aa
  have v8:=zzk H N hn;obtain⟨hE,K⟩:=v8;apply bH;apply yc;refine yo ?_;refine bC ?_;refine yi (kY (k:=5) rfl) ?_;refine yn ?_ ?_;all_goals(first|exact zE hE|exact zE K|exact jA (λz=>yj z) K|exact jA (λz=>AV.int .i64 z) hE.symm|(with_reducible rfl))
end
section
variable{M:List Int}{k:Int}
def lvN(m:Mn)(L:List Int)(l:List Ite):Nat->List Int×List Ite
 |0=>([],l)
 |n+1=>((lvN m L l n).1++cuV m (L.getD n 0) (lvN m L l n).2,apV m (L.getD n 0) (lvN m L l n).2 (cuV m (L.getD n 0) (lvN m L l n).2))
structure LvJ(m:Mn)(L:List Int)(l:List Ite)(n:Nat):Prop where
 le:n<=L.length
 go:lvF m L l []=lvF m (L.drop n) (lvN m L l n).2 (lvN m L l n).1
 len:(lvN m L l n).2.length=l.length
 cho:(lvN m L l n).1.length<=n*(2*l.length+2)
def LvJ.z(m:Mn)(L:List Int)(l:List Ite):LvJ m L l 0:=⟨aa,rfl,rfl,by simp[lvN]⟩
def zlt{m:Mn}{l:List Ite}:(cuV m k l).length<=2*l.length+2:=by
 by_cases h:cuE m k l=0
 ·obtain⟨h0,h1⟩:=zrw h;unfold cuO at h1;have:=(zg1 h1).1;have:=za8 m k l;omega
 ·unfold cuV;rw[j8 h];simp
def zig{m:Mn}{l:List Ite}(h:apE m k l M=0):(apV m k l M).length=l.length:=by
 unfold apV;rw[j7 h];exact zcP _ _ _ _ _
def zih{m:Mn}{L:List Int}{l:List Ite}{n:Nat}(hk:L[n]? =some k):(lvN m L l n).1++cuV m k (lvN m L l n).2=(lvN m L l (n+1)).1/\apV m k (lvN m L l n).2 (cuV m k (lvN m L l n).2)=(lvN m L l (n+1)).2:=by
 have e:L.getD n 0=k:=by rw[jB,hk];rfl
 show _=((lvN m L l n).1++cuV m (L.getD n 0) (lvN m L l n).2)/\_=apV m (L.getD n 0) (lvN m L l n).2 (cuV m (L.getD n 0) (lvN m L l n).2);rw[e];exact⟨rfl,rfl⟩
def LvJ.s{m:Mn}{L:List Int}{l:List Ite}{n:Nat}(h:LvJ m L l n)(hk:L[n]? =some k)(he:cuE m k (lvN m L l n).2=0):LvJ m L l (n+1):=by
 obtain⟨e1,e2⟩:=zih (m:=m) (l:=l) hk;have N:=(j5.1 hk).1;refine⟨aa,?_,?_,?_⟩
 ·rw[h.go,zmB hk,j7 he,e1,e2]
 ·rw[←e2,zig (zmA he),h.len]
 ·rw[←e1,jJ,Nat.add_mul,vX];have:=h.cho;have:=zlt (m:=m) (k:=k) (l:=(lvN m L l n).2);rw[h.len]at this;omega
section
variable{m:Mn}{l:List Ite}{n:Nat}{k:Int}
def zB5(h:¬ckM m=0):leE m l=ckM m/\leC m l=[]/\leI m l=[]:=by
 have:leE m l=ckM m:=by unfold leE;rw[j8 h]
 refine⟨this,?_,?_⟩
 ·unfold leC;rw[this,j8 h]
 ·unfold leI;rw[this,j8 h]
def zB6(h:ckM m=0)(N:¬ckIE l=0):leE m l=ckIE l/\leC m l=[]/\leI m l=[]:=by
 have:leE m l=ckIE l:=by unfold leE;rw[j7 h,j8 N]
 refine⟨this,?_,?_⟩
 ·unfold leC;rw[this,j8 N]
 ·unfold leI;rw[this,j8 N]
def zzl(h:ckM m=0)(N:ckIE l=0)(hJ:LvJ m (perfL m) l n)(hk:(perfL m)[n]? =some k)(he:¬cuE m k (lvN m (perfL m) l n).2=0):leE m l=cuE m k (lvN m (perfL m) l n).2/\leC m l=[]/\leI m l=[]:=by
 have:leE m l=cuE m k (lvN m (perfL m) l n).2:=by unfold leE;rw[j7 h,j7 N,hJ.go,zmB hk,j8 he]
 refine⟨this,?_,?_⟩
 ·unfold leC;rw[this,j8 he]
 ·unfold leI;rw[this,j8 he]
def zzm(h:ckM m=0)(N:ckIE l=0)(hJ:LvJ m (perfL m) l n)(hn:n=(perfL m).length):leE m l=0/\(lvN m (perfL m) l n).1=leC m l/\(lvN m (perfL m) l n).2=leI m l:=by
 have e:lvF m (perfL m) l []=((lvN m (perfL m) l n).1,(lvN m (perfL m) l n).2,0):=by rw[hJ.go,hn,uD];rfl
 have:leE m l=0:=by unfold leE;rw[j7 h,j7 N,e]
 refine⟨this,?_,?_⟩
 ·unfold leC;rw[this,j7 rfl,e]
 ·unfold leI;rw[this,j7 rfl,e]
def zlu(m:Mn):(perfL m).length<=4:=by
 unfold perfL;exact uA _ _
def zry(hk:(perfL m)[n]? =some k):1<=k/\k<=4:=by
 have h:=j6 hk;rw[zgW]at h;exact⟨h.1,h.2.1⟩
end
end
section
attribute [local irreducible] cuV cuE apV apE leE leC leI lvN lvF ckM perfL ckIE ckIX
end
end Go.Rse
namespace Go.Rse
open Go Go.RowKit Go.Proofs.Tryz
variable{P:Program}{az:List AV}{c:Code}{cs:List AV}{f:FuncId}{fn:Func}{hs':List (Nat×Blk)}{kp:List Nat}{n:Nat}{pv:Value}{ts:List (Nat×AV)}
def zxc(C:Ctx)(pv:Value)(vs:List Value)(cs:List AV)(hs':List (Nat×Blk))(e:Exit)(st:St):Prop:=
 e=pnc pv/\∃ts ex,Imp C st ⟨ts,(kN,.hold vs cs)::(hs'++ex)⟩
def zxc.mk{C:Ctx}{pv:Value}{vs:List Value}{cs:List AV}{hs':List (Nat×Blk)}{st:St}(hi:Imp C st ⟨[],(kN,.hold vs cs)::(hs'++[])⟩:=by exact yh):zxc C pv vs cs hs' (pnc pv) st:=⟨rfl,[],[],hi⟩
def FnP.intro{hs:List (Nat×Blk)}(hc:zy P f=true)(hf:P.funcs[f]? =some fn)(hb:fn.body=some c)(hn:fn.ntmps=n)
 (v4:zaE 0 az=ts)(k9:az.length<=n)(k8:(hs.all λp=>!(p.1.beq kN))=true)(x2:(hs'.all λp=>!(p.1.beq kN))=true)(v3:kp.mapM (hdr hs)=some cs)(x1:kp.mapM (hdr hs')=some cs)
 (h:∀g w d vs,X P (C0 n d g w) c ⟨ts,(kN,.hold vs cs)::hs⟩ (zxc (C0 n d g w) pv vs cs hs')):FnP P f az hs kp pv hs':=by
 refine⟨hc,λd ρ I O w args K H=>(callsIn_wide (n:=0)).1 (callsIn_of_wp_marks hf hb trivial ?_)⟩;subst v4;have v2:args.length=az.length:=H.1;let C:=C0 n d ⟨ρ,I,O⟩ w
 have x0:Rel C ⟨zaE 0 az,(kN,.hold (kp.map ρ) cs)::hs⟩ ⟨ρ,I,O⟩ {tmps:=args.toArray++Array.replicate (fn.ntmps-args.toArray.size) undef,defers:=[]} w:=by
  refine⟨by simp[hn,C];omega,Dfs.nil _ _ _,λt x hx=>?_,⟨K.im,K.ob,λk B E=>?_⟩,⟨bS _,rfl,rfl,rfl,jG _,jG _,λ_ _ _ _=>⟨rfl,rfl⟩,λb y n _ hy=>⟨n,hy⟩⟩⟩
  ·obtain⟨_,xT⟩:=zdt (I:=I) (ρ:=ρ) az 0 t x hx;simp only[vY]at xT;have ht:t<args.length:=by rw[v2];exact(j5.1 xT).1
   have e:(args.toArray++Array.replicate (fn.ntmps-args.toArray.size) undef).getD t undef=args[t]:=by
    simp[jI,vN,ht]
   rw[e];exact H.2 t x _ xT (lgg ht)
  ·simp only[ym]at E;cases v1:kN.beq k<;>simp[v1]at E
   ·exact(K.blk k B E).ctx
   ·subst E;exact ziu (g:=⟨ρ,I,O⟩) K v3
 refine wpIn_mono (h _ w d _ _ _ w x0) ?_
 rintro e a w'⟨st,g1,v0,rfl,ts',ex',w2⟩
 obtain⟨g2,v9⟩:=w2 g1 a w' v0;show LeavesInM Fence.wide 0 P fn a.tmps _ a.defers (.panicking [{v:=pv,recovered:=false}]) w';obtain⟨D,hD,k7,k6⟩:=v9.defers;have G:=hD.plain (C:=C) rfl;have G:a.defers=D.map mkD++[]:=by rw[G];simp[C]
 rw[G];refine zeW (C:=C) (st:=⟨ts',(kN,.hold (kp.map ρ) cs)::(hs'++ex')⟩) (tmps:=a.tmps) ah (tl:=[]) (λg3 w3 N=>?_) D (g:=g2) (w:=w') (by rw[←G];exact v9)
 have v8:Sat (C0 0 d ⟨ρ,I,O⟩ w) hs' g3 w3:=⟨N.sat.im,N.sat.ob,λk B E=>by
  refine(N.sat.blk k B ?_).ctx
  have:kN.beq k=false:=by
   cases hb:kN.beq k
   ·rfl
   ·have:kN=k:=ao hb
    subst this;rw[zgL x2]at E;simp at E
  simp[ym,this,zco,E]⟩
 have hh:=N.sat.blk kN (.hold (kp.map ρ) cs) (by simp[ym])
 have v5:∃v ρ' I' O',(Ending.panicked [{v:=pv,recovered:=false}]=Ending.panicked [{v:=pv,recovered:=false}])/\Sat (C0 0 d ⟨ρ,I,O⟩ w) hs' ⟨ρ',I',O'⟩ w3/\RV I' ρ' (.tup []) v/\Ext (C0 0 d ⟨ρ,I,O⟩ w) ⟨ρ',I',O'⟩ w3/\∀n∈kp,ρ' n=ρ n:=
  ⟨.tuple #[],g3.ρ,g3.I,g3.O,rfl,v8,.tup [] [] rfl (λj c v hc=>by simp at hc),⟨N.ext.I,N.ext.os,N.ext.tape,N.ext.output,N.ext.drawn,N.ext.size,N.ext.keep,N.ext.own⟩,zgK (ρ:=ρ) v8 x1 hh⟩
 exact v5
end Go.Rse
namespace Go.Rse
open Go Go.Proofs Go.Proofs.Tryz
attribute [local irreducible] Pur yy yu Ex X Fn Imp LeV LeB FnO It yA FnW FnOW FnP
section
attribute [local irreducible] cuV cuE apV apE leE leC leI lvN lvF ckM perfL ckIE ckIX
def ziU(m:Mn)(l:List Ite)(C:List Int):FnO prog 160 [.ptr 2000000 0 0 0] [(2000000,.box [iv m.Max,iv m.Mod,iv m.Tem,iv m.Pro,yj [],itsA l,.own 2000001] 314),(2000001,.row intE (C) 3 1)] [2000000,2000001] (.nilf) [(2000000,.box [iv m.Max,iv m.Mod,iv m.Tem,iv m.Pro,yj [],itsA l,.own 2000001] 314),(2000001,.row intE (C) 3 1)]:=by
 refine c8 [.ptr 2000000 0 0 0,.own 2000001] func160 ntmps160 (λg w d vs=>?_);apply yc;refine yk ?_;apply ye;apply yc;refine ya ?_;refine ya ?_ (hs:=by exact yg rfl);refine gd ?_ ?_<;>intro N
 ·apply yc;refine yk ?_;refine bC ?_;refine znf.mk [(2,.nilf)] [] (.inr rfl) (.one (.tmp rfl (kZ ?_)));all_goals rfl
 exact absurd rfl N
def zhT(m:Mn)(l:List Ite)(C:List Int)(k:Int)(r:List Int)(hk:1<=k/\k<=4)(hl:l.length<=1000)(hC:C.length<=1000000)(h0:¬cuE m k l=0):FnP prog 160 [.ptr 2000000 0 0 0] [(2000000,.box [iv m.Max,iv m.Mod,iv m.Tem,iv m.Pro,yj (k::r),itsA l,.own 2000001] 314),(2000001,.row intE (C) 3 1)] [2000000,2000001] (ifV 309 .i64 (cuE m k l)) [(2000000,.box [iv m.Max,iv m.Mod,iv m.Tem,iv m.Pro,yj r,itsA l,.own 2000001] 314),(2000001,.row intE (C) 3 1)]:=by
 have G:(k::r)[(0:Int).toNat]? =some k:=rfl;have H:=hk.1;have E:=zlt (m:=m) (k:=k) (l:=l);refine FnP.intro (ts:=[(0,.ptr 2000000 0 0 0)]) (n:=75) (cs:=[.ptr 2000000 0 0 0,.own 2000001]) ae func160 rfl ntmps160 rfl ah rfl rfl rfl rfl (λg w d vs=>?_);apply yc;refine yk ?_;apply ye;apply yc;refine ya ?_;refine ya ?_ (hs:=by exact yg rfl);refine gd ?_ ?_<;>intro N
 ·exact absurd N aj
 apply yf;apply yc;refine ya ?_;refine ya ?_ (hs:=by exact yg rfl);iterate 5 refine ya ?_
 apply yp;iterate 2 refine ya ?_
 refine ya ?_ (hs:=by exact yg rfl);refine gq ?_
 first
  |refine yO (y8 rfl rfl rfl sl22 ty3 aa aa) rfl ?_
  |refine yO (zb2 rfl rfl sl22 ty3 (λ_=>rfl) aa aa) rfl ?_
 refine ya ?_ (hs:=by exact yg rfl);refine gq ?_;refine y4 [4,5,26,27,28,29,30,31,32,33,34,35,36,37,38] [0,1,3,7,0,0,32,96,224,511,1023,2047,2047,4095,16383] mo ?_;refine yb ?_;refine yb ?_ (hs:=by exact yg rfl);iterate 4 refine yb ?_
 refine yb ?_ (hs:=by exact yg rfl);iterate 2 refine yb ?_
 refine yI (zfg m k l aa aa aa) ?_;iterate 5 refine yb ?_
 refine yD ?_;refine gd ?_ ?_<;>intro K
 ·(refine yd ?_;refine ya ?_;refine ya ?_;refine ya (hs:=by exact zmc rfl ⟨_,Tryz.underlying309⟩) ?_;refine Ex.panic ?_;exact zxc.mk)
 exact absurd K h0
set_option maxRecDepth 9999 in
def zjU(m:Mn)(l:List Ite)(C:List Int)(k:Int)(r:List Int)(hk:1<=k/\k<=4)(hl:l.length<=1000)(hC:C.length<=1000000)(h0:cuE m k l=0):FnO prog 160 [.ptr 2000000 0 0 0] [(2000000,.box [iv m.Max,iv m.Mod,iv m.Tem,iv m.Pro,yj (k::r),itsA l,.own 2000001] 314),(2000001,.row intE (C) 3 1)] [2000000] (.fn 160 []) [(2000000,.box [iv m.Max,iv m.Mod,iv m.Tem,iv m.Pro,yj r,itsA (apV m k l (cuV m k l)),.own 2000012] 314),(2000012,.row intE (C++(cuV m k l)) 3 1)]:=by
 have x2:(k::r)[(0:Int).toNat]? =some k:=rfl;have xT:=hk.1;have x1:=zlt (m:=m) (k:=k) (l:=l);have N:=zmA h0;refine c8 [.ptr 2000000 0 0 0] func160 ntmps160 (λg w d vs=>?_);apply yc;refine yk ?_;apply ye;apply yc;refine ya ?_;refine ya ?_ (hs:=by exact yg rfl);refine gd ?_ ?_<;>intro K
 ·exact absurd K aj
 apply yf;apply yc;refine ya ?_;refine ya ?_ (hs:=by exact yg rfl);iterate 5 refine ya ?_
 apply yp;iterate 2 refine ya ?_
 refine ya ?_ (hs:=by exact yg rfl);refine gq ?_
 first
  |refine yO (y8 rfl rfl rfl sl22 ty3 aa aa) rfl ?_
  |refine yO (zb2 rfl rfl sl22 ty3 (λ_=>rfl) aa aa) rfl ?_
 refine ya ?_ (hs:=by exact yg rfl);refine gq ?_;refine y4 [4,5,26,27,28,29,30,31,32,33,34,35,36,37,38] [0,1,3,7,0,0,32,96,224,511,1023,2047,2047,4095,16383] mo ?_;refine yb ?_;refine yb ?_ (hs:=by exact yg rfl);iterate 4 refine yb ?_
 refine yb ?_ (hs:=by exact yg rfl);iterate 2 refine yb ?_
 refine yI (zfg m k l aa aa aa) ?_;iterate 5 refine yb ?_
 refine yD ?_;refine gd ?_ ?_<;>intro G
 ·exact absurd h0 G
 apply yf;apply ye;refine zY [⟨0,45,.ptr 2000000 0 0 0,[]⟩,⟨1,46,.ptr 2000000 0 0 0,[]⟩,⟨2,47,.ptr 2000000 0 0 0,[1]⟩,⟨3,48,.ptr 2000000 0 0 (0+0),[1,2]⟩,⟨4,49,mnA m,[1,2,3]⟩,⟨5,50,iv k,[]⟩,⟨6,51,.ptr 2000000 0 0 0,[]⟩,⟨7,52,.ptr 2000000 0 0 0,[6]⟩,⟨8,53,.ptr 2000000 0 0 (0+5),[6,7]⟩,⟨9,54,itsA l,[6,7,8]⟩,⟨10,55,yj (cuV m k l),[]⟩,⟨12,44,.tup [itsA (apV m k l (cuV m k l)),iv (apE m k l (cuV m k l))],[6,1,7,2,8,3,10,9,5,4,11]⟩,⟨13,57,itsA (apV m k l (cuV m k l)),[6,1,7,2,8,3,10,9,5,4,11,12]⟩,⟨14,58,iv (apE m k l (cuV m k l)),[6,1,7,2,8,3,10,9,5,4,11,12]⟩,⟨15,59,.ptr 2000000 0 0 0,[13,12,11,10,9,8,7,6,5,4,3,2,1,0]⟩,⟨16,60,.ptr 2000000 0 0 (0+5),[13,12,11,10,9,8,7,6,5,4,3,2,1,0,15]⟩] [(11,[6,1,7,2,8,3,10,9,5,4]),(17,[15,12,10,9,8,7,6,5,4,3,2,1,0,11,13,16]),(18,[16,15,13,12,11,10,9,8,7,6,5,4,3,2,1,0,17,14])] (let T:=[(0,.ptr 2000000 0 0 0),(3,iv k),(4,yj (cuV m k l))];let H:=[(1000001,.hold vs [.ptr 2000000 0 0 0]),(2000001,.row intE (C) 3 1)];λj=>match j with|0=>⟨T,(2000000,.box [iv m.Max,iv m.Mod,iv m.Tem,iv m.Pro,yj r,itsA l,.own 2000001] 314)::H⟩|1=>⟨(56,.tup [itsA (apV m k l (cuV m k l)),iv (apE m k l (cuV m k l))])::T,(2000000,.box [iv m.Max,iv m.Mod,iv m.Tem,iv m.Pro,yj r,itsA l,.own 2000001] 314)::H⟩|2=>⟨(56,.tup [itsA (apV m k l (cuV m k l)),iv (apE m k l (cuV m k l))])::T,(2000000,.box [iv m.Max,iv m.Mod,iv m.Tem,iv m.Pro,yj r,itsA (apV m k l (cuV m k l)),.own 2000001] 314)::H⟩|_=>⟨(56,.tup [itsA (apV m k l (cuV m k l)),iv (apE m k l (cuV m k l))])::(5,iv (apE m k l (cuV m k l)))::T,(2000000,.box [iv m.Max,iv m.Mod,iv m.Tem,iv m.Pro,yj r,itsA (apV m k l (cuV m k l)),.own 2000001] 314)::H⟩) mo (zP (yh)) (λj hj=>?_) ⟨λβ=>Co2 rfl (yW (za4 rfl rfl rfl (bK _) (zff m k l (cuV m k l) aa aa aa aa)) rfl rfl),λβ=>Co2 rfl (zX rfl rfl rfl rfl TyK.h ah),λβ=>Co2 rfl (yW (bA yU) rfl rfl),trivial⟩ ?_
 ·rcases j with _|_|_|_|j
  ·exact yE
  ·exact yE
  ·exact yE
  ·exact yE
  ·exact absurd (show j+4<=3 from hj) aa
 refine gd ?_ ?_<;>intro E
 ·exact absurd N E
 apply yf;apply yc;iterate 2 refine ya ?_
 refine ya ?_ (hs:=by exact yg rfl);iterate 3 refine ya ?_
 refine bF ?_;refine ya ?_ (hs:=by exact yg rfl);refine ya ?_;refine bF ?_;apply yp;refine yk ?_;refine bC ?_;refine zhp (bY 2000001 2000012 rfl rfl) ?_;refine znf.mk [(2,.fn 160 [])] [] (.inr rfl) (.one (.tmp rfl (kZ ?_)));all_goals rfl
end
section
def zf7(A:List Int)(B:List Ite):FnD prog 158 [.ptr 2000004 0 0 0,.ptr 2000005 0 0 0,.ptr 2000006 0 0 0] [(2000004,.box [yj A] 22),(2000005,.box [itsA B] 235),(2000006,.box [iv 0] 29)] [2000004,2000005,2000006] (.returning) (.returning) [(2000004,.box [yj A] 22),(2000005,.box [itsA B] 235),(2000006,.box [iv 0] 29)]:=by
 refine FnD.intro (ts:=[(0,.ptr 2000004 0 0 0),(1,.ptr 2000005 0 0 0),(2,.ptr 2000006 0 0 0)]) (n:=19) (cs:=[.ptr 2000004 0 0 0,.ptr 2000005 0 0 0,.ptr 2000006 0 0 0]) ae func158 rfl ntmps158 rfl ah rfl ah rfl rfl rfl (λg w d vs=>?_);refine XS.seq ?_;refine XS.recover rfl rfl (v:=.nilIface) (.inl ⟨rfl,rfl,rfl⟩) ?_;refine XS.of ?_;apply yc;refine ya ?_;refine ya (hs:=by exact zjE ⟨_,Tryz.underlying20⟩ rfl) ?_;refine gd ?_ ?_<;>intro N
 ·cases N
 apply yf;exact⟨rfl,.inl rfl,[],[],yh⟩
set_option maxRecDepth 9999 in
def zf8(e:Int):FnD prog 158 [.ptr 2000004 0 0 0,.ptr 2000005 0 0 0,.ptr 2000006 0 0 0] [(2000004,.box [.nils] 22),(2000005,.box [.nils] 235),(2000006,.box [iv 0] 29)] [2000004,2000005,2000006] (.panicking [{v:=ifV 309 .i64 e,recovered:=false}]) (.panicking [{v:=ifV 309 .i64 e,recovered:=true}]) [(2000004,.box [.nils] 22),(2000005,.box [.nils] 235),(2000006,.box [iv e] 29)]:=by
 refine FnD.intro (ts:=[(0,.ptr 2000004 0 0 0),(1,.ptr 2000005 0 0 0),(2,.ptr 2000006 0 0 0)]) (n:=19) (cs:=[.ptr 2000004 0 0 0,.ptr 2000005 0 0 0,.ptr 2000006 0 0 0]) ae func158 rfl ntmps158 rfl ah rfl ah rfl rfl rfl (λg w d vs=>?_);refine XS.seq ?_;refine XS.recover rfl rfl (v:=ifV 309 .i64 e) (.inr ⟨[],rfl,rfl⟩) ?_;refine XS.of ?_;apply yc;refine ya ?_;refine ya (hs:=by exact zm7 ⟨_,Tryz.underlying20⟩ rfl) ?_;refine gd ?_ ?_<;>intro N
 ·apply yc;refine ya ?_;refine ya (hs:=by exact zkb rfl ⟨_,Tryz.underlying309⟩) ?_;refine gd ?_ ?_<;>intro K
  ·cases K
  apply yf;refine zY [⟨0,17,.ptr 4 0 0 (0+0),[]⟩,⟨1,18,iv e,[0]⟩] [(2,[]),(3,[2]),(4,[2,0,3,1])] (let T:=[(0,.ptr 2000004 0 0 0),(1,.ptr 2000005 0 0 0),(2,.ptr 2000006 0 0 0),(4,.ptr 4 0 0 0)];let H:=[(1000001,.hold vs [.ptr 2000004 0 0 0,.ptr 2000005 0 0 0,.ptr 2000006 0 0 0]),(2000004,.box [.nils] 22),(2000005,.box [.nils] 235),(4,.box [iv e] 309)];λj=>match j with|0=>⟨T,(2000006,.box [iv 0] 29)::H⟩|1=>⟨T,(2000006,.box [iv 0] 29)::H⟩|2=>⟨T,(2000006,.box [iv 0] 29)::H⟩|_=>⟨T,(2000006,.box [iv e] 29)::H⟩) mo (zP (yh)) (λj G=>?_) ⟨λβ=>Co2 rfl (zX rfl rfl rfl rfl TyK.h ah),λβ=>Co2 rfl (zX rfl rfl rfl rfl TyK.h ah),λβ=>Co2 rfl (zX rfl rfl rfl rfl TyK.h ah),trivial⟩ ?_
  ·rcases j with _|_|_|_|j
   ·exact yE
   ·exact yE
   ·exact yE
   ·exact yE
   ·exact absurd (show j+4<=3 from G) aa
  exact⟨rfl,.inl rfl,[],[],yh⟩
 ·cases N
end
end Go.Rse
namespace Go.Rse
open Go Go.RowKit Go.Proofs.Tryz
section
variable{P:Program}{C:Ctx}{st:St}{ty:TypeId}{Q:Exit->St->Prop}
variable{T:TypeId}{c:Code}{cs:List AV}{f:FuncId}{x:Operand}{yt:TypeId}{ι:Type}
def zqa(N:∃a b c,P.underlying T=some (.func a b c))(hx:ev st x=some (.fn f cs)):Pur P C (.binOp .neq T x (.const .nilFunc) yt) ty st (.bool true):=λg a w dst pos af gd hr=>by
 obtain⟨us,e,_,_⟩:=zcE (yq hr hx);have e0:a.eval (.const .nilFunc)=.nilFunc:=rfl;refine⟨.bool true,?_,.bool _⟩;obtain⟨p,q,r,N⟩:=N;have K:(eqGuard .neq T x (.const .nilFunc) (.func (.func f) #[] us.toArray) .nilFunc).run P w=.ok () w:=by unfold eqGuard;simp
 have h1:(Op.equal T (.func (.func f) #[] us.toArray) .nilFunc).run P w=.ok false w:=by
  unfold Op.equal;rw[show Op.maxDepth=9999+1 from rfl];unfold Op.equalIn;simp[run_underlying N]
 simp only[execOp,e,e0,jM,K,jH,binOp,h1,jP];rfl
def znH(N:∃a b c,P.underlying T=some (.func a b c))(hx:ev st x=some .nilf):Pur P C (.binOp .neq T x (.const .nilFunc) yt) ty st (.bool false):=λg a w dst pos af gd hr=>by
 have e:=zsL (yq hr hx);have e0:a.eval (.const .nilFunc)=.nilFunc:=rfl;refine⟨.bool false,?_,.bool _⟩;obtain⟨p,q,r,N⟩:=N;have K:(eqGuard .neq T x (.const .nilFunc) .nilFunc .nilFunc).run P w=.ok () w:=by unfold eqGuard;simp
 have h1:(Op.equal T .nilFunc .nilFunc).run P w=.ok true w:=by
  unfold Op.equal;rw[show Op.maxDepth=9999+1 from rfl];unfold Op.equalIn;simp[run_underlying N]
 simp only[execOp,e,e0,jM,K,jH,binOp,h1,jP];rfl
def zB7(I:ι->List (Nat×AV))(H:ι->List (Nat×Blk))(J:ι->Prop)(μ:ι->Nat)(i0:ι)(IB:ι->List (Nat×AV))(HB:ι->List (Nat×Blk))(JB:ι->Prop)
 (N:∀i,JB i->X P C c ⟨IB i,HB i⟩ (zcb (λ_=>False) Q))
 (h:∀i,J i->X P C c ⟨I i,H i⟩ (zcb (λst'=>(∃i',Imp C st' ⟨I i',H i'⟩/\J i'/\μ i'<μ i)\/(∃i',Imp C st' ⟨IB i',HB i'⟩/\JB i')) Q))
 (hJ:J i0)(h0:Imp C st ⟨I i0,H i0⟩):X P C (.loop c) st Q:=by
 refine X.loop (λs:ι⊕ι=>(⟨Sum.elim I IB s,Sum.elim H HB s⟩:St)) (Sum.elim J JB) (Sum.elim (λi=>μ i+1) (λ_=>0)) (.inl i0) h0 hJ (λs hs=>?_);cases s with
 |inl i=>
  intro g a w hr;refine wpIn_mono (h i hs g a w hr) ?_
  rintro e a w⟨st,g,hr,q⟩
  refine⟨st,g,hr,?_⟩;cases e
  case normal=>
   rcases q with⟨i',q1,q2,q3⟩|⟨i',q1,q2⟩
   ·exact⟨.inl i',q1,q2,Nat.succ_lt_succ q3⟩
   ·exact⟨.inr i',q1,q2,Nat.succ_pos _⟩
  all_goals exact q
 |inr i=>
  intro g a w hr;refine wpIn_mono (N i hs g a w hr) ?_
  rintro e a w⟨st,g,hr,q⟩
  refine⟨st,g,hr,?_⟩;cases e
  case normal=>exact q.elim
  all_goals exact q
end
end Go.Rse
namespace Go.Rse
open Go Go.Proofs Go.Proofs.Tryz
section
attribute [local irreducible] Pur yy yu Ex X Fn Imp LeV LeB FnO It yA FnW FnOW FnP FnD
attribute [local irreducible] cuV cuE apV apE leE leC leI lvN lvF ckM perfL ckIE ckIX
set_option maxRecDepth 9999 in
def zjV(m:Mn)(l:List Ite)(hl:l.length<=1000):Fn prog 108 [mnA m,itsA l] (.tup [yj (leC m l),itsA (leI m l),iv (leE m l)]):=by
 have v8:=zlu m;refine zkD (ts:=[(0,mnA m),(1,itsA l)]) (n:=48) ae func108 rfl ntmps108 rfl rfl ah (λg w d=>?_);refine XW.seq ?_;apply yd;refine zl ?_;iterate 3 refine yP ?_
 apply bD;refine XW.seq ?_;refine gq ?_;refine zf (zc6 m) ?_;iterate 4 refine ya ?_
 refine bF ?_;apply bD;refine XW.seq ?_;refine gd ?_ ?_<;>intro v5
 ·have v4:=zB5 (l:=l) v5;obtain⟨hE,N,K⟩:=v4;apply ye;refine zY [⟨0,19,iv (ckM m),[]⟩] [(1,[]),(2,[1]),(3,[1,2,0])] (let T:=[(4,.ptr 4 0 0 0),(5,.ptr 5 0 0 0),(6,.ptr 6 0 0 0)];let H:=[(4,.box [.nils] 22),(5,.box [.nils] 235),(6,.box [iv (ckM m)] 29)];λj=>match j with|0=>⟨T,H⟩|1=>⟨T,H⟩|2=>⟨T,H⟩|_=>⟨T,H⟩) mo (zP (yh)) (λj G=>?_) ⟨λβ=>Co2 rfl (zX rfl rfl rfl rfl TyK.h ah),λβ=>Co2 rfl (zX rfl rfl rfl rfl TyK.h ah),λβ=>Co2 rfl (zX rfl rfl rfl rfl TyK.h ah),trivial⟩ ?_
  ·rcases j with _|_|_|_|j
   ·exact yE
   ·exact yE
   ·exact yE
   ·exact yE
   ·exact absurd (show j+4<=3 from G) aa
  refine bC ?_;refine zta.plain (rv:=[.cell 4 22,.cell 5 235,.cell 6 29]) rfl rfl (bJ (.many ac (.cons (.cellS rfl rfl rfl TyK.h (by rw[N];exact bO _)) (.cons (.cellS rfl rfl rfl TyK.h (by rw[K];exact bO _)) (.cons (.cellS rfl rfl rfl TyK.h (kZ (by rw[hE]))) .nil)))))
 have hm:ckM m=0:=aa
 rw[show(if ckM m=0 then perfL m else[])=perfL m from j7 hm,hm];apply yf;refine XW.seq ?_;refine gc (zfb l aa) ?_;refine gd ?_ ?_<;>intro v3
 ·have v2:=zB6 hm v3;obtain⟨hE,N,K⟩:=v2;apply yc;refine ya ?_;iterate 3 refine bF ?_
  apply bD;refine bC ?_;refine zta.plain (rv:=[.cell 4 22,.cell 5 235,.cell 6 29]) rfl rfl (bJ (.many ac (.cons (.cellS rfl rfl rfl TyK.h (by rw[N];exact bO _)) (.cons (.cellS rfl rfl rfl TyK.h (by rw[K];exact bO _)) (.cons (.cellS rfl rfl rfl TyK.h (kZ (by rw[hE]))) .nil)))))
 have hi:ckIE l=0:=aa
 apply yf;refine XW.defer 9 (λus=>?_);refine XW.of ?_;apply ye;refine zY [⟨0,29,mnA m,[]⟩,⟨1,30,yj (perfL m),[]⟩,⟨2,31,itsA l,[]⟩] [(3,[2]),(4,[2,3,1,0]),(5,[2,3,1,0,4]),(6,[4,2,1,0,3,5])] (let T:=[(1,itsA l),(2,.ptr 2 0 0 0),(7,yj (perfL m)),(4,.ptr 4 0 0 0),(5,.ptr 5 0 0 0),(6,.ptr 6 0 0 0)];let H:=[(9,.hold us.toList [.ptr 4 0 0 0,.ptr 5 0 0 0,.ptr 6 0 0 0]),(4,.box [.nils] 22),(5,.box [.nils] 235),(6,.box [iv 0] 29),(2,.box (mnE m) 67)];λj=>match j with|0=>⟨T,H⟩|1=>⟨(32,.own 32)::T,(32,.row itE l 241 12)::H⟩|2=>⟨(33,.agg [iv m.Max,iv m.Mod,iv m.Tem,iv m.Pro,yj (perfL m),.own 32,.nils])::T,(32,.row itE l 241 12)::H⟩|3=>⟨(34,.ptr 34 0 0 0)::T,(34,.box [iv m.Max,iv m.Mod,iv m.Tem,iv m.Pro,yj (perfL m),.own 32,.nils] 314)::(32,.row itE l 241 12)::H⟩|_=>⟨(10,.ptr 34 0 0 0)::T,(34,.box [iv m.Max,iv m.Mod,iv m.Tem,iv m.Pro,yj (perfL m),.own 32,.nils] 314)::(32,.row itE l 241 12)::H⟩) mo (zP (yh)) (λj G=>?_) ⟨λβ=>Co2 rfl (zvb [(5,32)] (zai l aa)),λβ=>Co2 rfl (yW (bA yU) rfl rfl),λβ=>Co2 rfl (yW (zhi (k:=34) rfl rfl) rfl rfl),λβ=>Co2 rfl (yW (bA yU) rfl rfl),trivial⟩ ?_
 ·rcases j with _|_|_|_|_|j
  ·exact yE
  ·exact yE
  ·exact yE
  ·exact yE
  ·exact yE
  ·exact absurd (show j+5<=4 from G) aa
 iterate 2 apply ye
 refine yl (st':=⟨[(4,.ptr 4 0 0 0),(5,.ptr 5 0 0 0),(6,.ptr 6 0 0 0),(10,.ptr 34 0 0 0)],[(9,.hold us.toList [.ptr 4 0 0 0,.ptr 5 0 0 0,.ptr 6 0 0 0]),(4,.box [.nils] 22),(5,.box [.nils] 235),(6,.box [iv 0] 29),(34,.box [iv m.Max,iv m.Mod,iv m.Tem,iv m.Pro,yj (perfL m),itsA l,.own 40] 314),(40,.row intE [] 3 1)]⟩) (((zbV intE 3 1 34 40 6 314 _ [iv m.Max,iv m.Mod,iv m.Tem,iv m.Pro,yj (perfL m),.own 32,.own 40] rfl rfl rfl rfl).trans (kY (k:=32) rfl)).trans yh) ?_;apply yd;refine yk ?_;have v0:[]=(lvN m (perfL m) l 0).1:=by unfold lvN;rfl
 have k9:([iv m.Max,iv m.Mod,iv m.Tem,iv m.Pro,yj (perfL m),itsA l,.own 40]:List AV)=[iv m.Max,iv m.Mod,iv m.Tem,iv m.Pro,yj (perfL m),itsA (lvN m (perfL m) l 0).2,.own 40]:=by unfold lvN;rfl
 apply kX;refine zB7 (ι:=List Int×Nat) (λp=>[(4,.ptr 4 0 0 0),(5,.ptr 5 0 0 0),(6,.ptr 6 0 0 0),(10,.ptr 34 0 0 0),(11,.fn 160 [])]) (λp=>[(9,.hold us.toList [.ptr 4 0 0 0,.ptr 5 0 0 0,.ptr 6 0 0 0]),(4,.box [.nils] 22),(5,.box [.nils] 235),(6,.box [iv 0] 29),(34,.box [iv m.Max,iv m.Mod,iv m.Tem,iv m.Pro,yj p.1,itsA (lvN m (perfL m) l p.2).2,.own 40] 314),(40,.row intE (lvN m (perfL m) l p.2).1 3 1)]) (λp=>(perfL m).drop p.2=p.1/\LvJ m (perfL m) l p.2) (λp=>p.1.length) (perfL m,0) (λp=>[(4,.ptr 4 0 0 0),(5,.ptr 5 0 0 0),(6,.ptr 6 0 0 0),(10,.ptr 34 0 0 0),(11,.nilf)]) (λp=>[(9,.hold us.toList [.ptr 4 0 0 0,.ptr 5 0 0 0,.ptr 6 0 0 0]),(4,.box [.nils] 22),(5,.box [.nils] 235),(6,.box [iv 0] 29),(34,.box [iv m.Max,iv m.Mod,iv m.Tem,iv m.Pro,yj [],itsA (lvN m (perfL m) l p.2).2,.own 40] 314),(40,.row intE (lvN m (perfL m) l p.2).1 3 1)]) (λp=>p.2=(perfL m).length/\LvJ m (perfL m) l p.2) (λp hk=>?_) (λp hk=>?_) ⟨rfl,LvJ.z _ _ _⟩ kW
 ·obtain⟨hn,hJ⟩:=hk;have hd:=zzm hm hi hJ hn;obtain⟨hE,N,K⟩:=hd;apply ye;apply yc;refine ya ?_;refine ya (hs:=by exact znH ⟨_,_,_,Tryz.underlying316⟩ rfl) ?_;refine gd ?_ ?_<;>intro hc
  ·cases hc
  apply bH;apply ye;refine yl (st':=⟨[(4,.ptr 4 0 0 0),(5,.ptr 5 0 0 0),(6,.ptr 6 0 0 0),(10,.ptr 34 0 0 0)],[(9,.hold us.toList [.ptr 4 0 0 0,.ptr 5 0 0 0,.ptr 6 0 0 0]),(4,.box [.nils] 22),(5,.box [.nils] 235),(6,.box [iv 0] 29),(34,.box [iv m.Max,iv m.Mod,iv m.Tem,iv m.Pro,yj [],itsA (lvN m (perfL m) l p.2).2,yj (lvN m (perfL m) l p.2).1] 314)]⟩) ((kY (k:=40) rfl).trans yh) ?_;refine zY [⟨0,40,.ptr 34 0 0 0,[]⟩,⟨1,41,.ptr 34 0 0 0,[0]⟩,⟨2,42,.ptr 34 0 0 (0+6),[0,1]⟩,⟨3,43,yj (lvN m (perfL m) l p.2).1,[0,1,2]⟩,⟨4,44,.ptr 34 0 0 0,[]⟩,⟨5,45,.ptr 34 0 0 0,[4]⟩,⟨6,46,.ptr 34 0 0 (0+5),[4,5]⟩,⟨7,47,itsA (lvN m (perfL m) l p.2).2,[4,5,6]⟩] [(8,[2,1,0,3]),(9,[6,5,4,3,2,1,0,8,7]),(10,[8,7,6,5,4,3,2,1,0,9])] (let T:=[(4,.ptr 4 0 0 0),(5,.ptr 5 0 0 0),(6,.ptr 6 0 0 0),(10,.ptr 34 0 0 0)];let H:=[(9,.hold us.toList [.ptr 4 0 0 0,.ptr 5 0 0 0,.ptr 6 0 0 0]),(6,.box [iv 0] 29),(34,.box [iv m.Max,iv m.Mod,iv m.Tem,iv m.Pro,yj [],itsA (lvN m (perfL m) l p.2).2,yj (lvN m (perfL m) l p.2).1] 314)];λj=>match j with|0=>⟨T,(4,.box [.nils] 22)::(5,.box [.nils] 235)::H⟩|1=>⟨T,(4,.box [yj (lvN m (perfL m) l p.2).1] 22)::(5,.box [.nils] 235)::H⟩|2=>⟨T,(4,.box [yj (lvN m (perfL m) l p.2).1] 22)::(5,.box [itsA (lvN m (perfL m) l p.2).2] 235)::H⟩|_=>⟨T,(4,.box [yj (lvN m (perfL m) l p.2).1] 22)::(5,.box [itsA (lvN m (perfL m) l p.2).2] 235)::H⟩) mo (zP (yh)) (λj G=>?_) ⟨λβ=>Co2 rfl (zX rfl rfl rfl rfl TyK.h ah),λβ=>Co2 rfl (zX rfl rfl rfl rfl TyK.h ah),λβ=>Co2 rfl (zX rfl rfl rfl rfl TyK.h ah),trivial⟩ ?_
  ·rcases j with _|_|_|_|j
   ·exact yE
   ·exact yE
   ·exact yE
   ·exact yE
   ·exact absurd (show j+4<=3 from G) aa
  refine bC ?_;refine zda (kD:=9) (rv:=[.cell 4 22,.cell 5 235,.cell 6 29]) [(2000004,4),(2000005,5),(2000006,6)] (zf7 (lvN m (perfL m) l p.2).1 (lvN m (perfL m) l p.2).2) (.inl ⟨rfl,rfl⟩) rfl rfl Imp.refl rfl (bK _) (.many ac (.cons (.cellS rfl rfl rfl TyK.h (kZ (jA (λz=>yj z) N))) (.cons (.cellS rfl rfl rfl TyK.h (kZ (jA (λz=>itsA z) K))) (.cons (.cellS rfl rfl rfl TyK.h (kZ (jA (λz=>AV.int .i64 z) hE.symm))) .nil)))) rfl rfl rfl (by repeat'(first|exact True.intro|refine And.intro ⟨_,_,rfl,rfl,bN _,rfl⟩ ?_)) rfl rfl rfl
 ·obtain⟨hdr,hJ⟩:=hk;apply ye;apply yc;refine ya ?_;refine ya (hs:=by exact zqa ⟨_,_,_,Tryz.underlying316⟩ rfl) ?_;refine gd ?_ ?_<;>intro hc
  ·apply yf;apply kX;obtain⟨rs,n⟩:=p;have E:(lvN m (perfL m) l n).2.length=l.length:=hJ.len;have xT:(lvN m (perfL m) l n).1.length<=n*(2*l.length+2):=hJ.cho;have x2:n<=(perfL m).length:=hJ.le;rcases rs with _|⟨k,r⟩
   ·refine gq ?_;refine y0 [(2000000,34),(2000001,40)] (ziU m (lvN m (perfL m) l n).2 (lvN m (perfL m) l n).1) ?_;refine yk ?_
    have hn:n=(perfL m).length:=by
     have h1:=jA List.length hdr;rw[vC]at h1;have h2:(perfL m).length-n=0:=h1;have h3:n<=(perfL m).length:=x2;omega
    exact Or.inr ⟨([],n),yh,hn,hJ⟩
   ·have hk:(perfL m)[n]? =some k:=by
     have h1:=jA (λz=>z[0]?) hdr;simpa using h1
    have x1:(perfL m).drop (n+1)=r:=by
     have h1:=jA (λz=>z.drop 1) hdr;simpa using h1
    have x0:=zry hk;have w2:(lvN m (perfL m) l n).2.length<=1000:=by rw[E];exact hl
    have v9:(lvN m (perfL m) l n).1.length<=1000000:=by
     have h1:n*(2*l.length+2)<=4*(2*l.length+2):=jX _ (jV x2 v8);have h2:=jV xT h1;omega
    by_cases h0:cuE m k (lvN m (perfL m) l n).2=0
    ·have hQ:=zih (m:=m) (l:=l) hk;obtain⟨k8,v1⟩:=hQ;have k7:([iv m.Max,iv m.Mod,iv m.Tem,iv m.Pro,yj r,itsA (apV m k (lvN m (perfL m) l n).2 (cuV m k (lvN m (perfL m) l n).2)),.own 41]:List AV)=[iv m.Max,iv m.Mod,iv m.Tem,iv m.Pro,yj r,itsA (lvN m (perfL m) l (n+1)).2,.own 41]:=by rw[v1]
     refine gq ?_;refine y0 [(2000000,34),(2000001,40),(2000012,41)] (zjU m (lvN m (perfL m) l n).2 (lvN m (perfL m) l n).1 k r x0 w2 v9 h0) ?_;refine yk ?_;refine Or.inl ⟨(r,n+1),(yh (ts:=[(4,.ptr 4 0 0 0),(5,.ptr 5 0 0 0),(6,.ptr 6 0 0 0),(10,.ptr 34 0 0 0),(11,.fn 160 [])]) (hs:=[(9,.hold us.toList [.ptr 4 0 0 0,.ptr 5 0 0 0,.ptr 6 0 0 0]),(4,.box [.nils] 22),(5,.box [.nils] 235),(6,.box [iv 0] 29),(34,.box [iv m.Max,iv m.Mod,iv m.Tem,iv m.Pro,yj r,itsA (apV m k (lvN m (perfL m) l n).2 (cuV m k (lvN m (perfL m) l n).2)),.own 41] 314),(41,.row intE ((lvN m (perfL m) l n).1++cuV m k (lvN m (perfL m) l n).2) 3 1)])).trans ((kW (ts:=[(4,.ptr 4 0 0 0),(5,.ptr 5 0 0 0),(6,.ptr 6 0 0 0),(10,.ptr 34 0 0 0),(11,.fn 160 [])]) (hs:=[(9,.hold us.toList [.ptr 4 0 0 0,.ptr 5 0 0 0,.ptr 6 0 0 0]),(4,.box [.nils] 22),(5,.box [.nils] 235),(6,.box [iv 0] 29),(34,.box [iv m.Max,iv m.Mod,iv m.Tem,iv m.Pro,yj r,itsA (lvN m (perfL m) l (n+1)).2,.own 41] 314),(41,.row intE (lvN m (perfL m) l (n+1)).1 3 1)])).trans ((bY 41 40 rfl rfl).trans yh)),⟨x1,hJ.s hk h0⟩,ah⟩
    ·have hd:=zzl hm hi hJ hk h0;obtain⟨hE,N,K⟩:=hd;apply yd;(iterate 2 refine ya ?_);refine zAe [(2000000,34),(2000001,40)] (zhT m (lvN m (perfL m) l n).2 (lvN m (perfL m) l n).1 k r x0 w2 v9 h0) ?_;refine zda (kD:=9) (rv:=[.cell 4 22,.cell 5 235,.cell 6 29]) [(2000004,4),(2000005,5),(2000006,6)] (zf8 (cuE m k (lvN m (perfL m) l n).2)) (.inr (.inr ⟨_,rfl,rfl⟩)) rfl rfl Imp.refl rfl (bK _) (.many ac (.cons (.cellS rfl rfl rfl TyK.h (by rw[N];exact bO _)) (.cons (.cellS rfl rfl rfl TyK.h (by rw[K];exact bO _)) (.cons (.cellS rfl rfl rfl TyK.h (kZ (jA (λz=>AV.int .i64 z) hE.symm))) .nil)))) rfl rfl rfl (by repeat'(first|exact True.intro|refine And.intro ⟨_,_,rfl,rfl,bN _,rfl⟩ ?_)) rfl rfl rfl
  ·cases hc
end
section
variable{l:List Sg}{m:Mn}{n:Int}
def zmC(h:cntE m l=0):ckD m l=0:=by
 grind[cntE]
def zrz(N:ckD m l=0)(h:¬cntE m l=0):cntE m l=15:=by
 grind[cntE]
def zxd(h:¬cntE m l=0):0=cntV m l:=by
 grind[cntE,cntV]
def zlv(h:cntE m l=0):1<=cntV m l/\cntV m l<=64:=by
 have N:=zmM (L:=mnsD m l) (n:=1) (λx hx=>zmN (zmC h) hx) aa aa
 grind[cntE,cntV]
def zB8(h:ofE m l n=0):cntE m l=0/\0<=n/\n<cntV m l:=by
 grind[ofE]
def dgL:Int->List Int->List Int×Int
 |n,[]=>([],n)
 |n,b::r=>((dgL n r).2%b::(dgL n r).1,(dgL n r).2/b)
def zrA:∀{l:List Int}{n:Int},0<=n->(∀x∈l,1<=x)->0<=(dgL n l).2/\(dgL n l).2<=n
 |[],n,h,_=>⟨h,vD _⟩
 |b::r,n,h,hl=>by
  obtain⟨a,c⟩:=zrA (l:=r) h (λy N=>hl y (by simp[N]));have K:=hl b ah;exact⟨uL a aa,xH (x3 _ a) c⟩
def zoW:∀(l:List Int)(n:Int),(dgL n l).1.length=l.length
 |[],n=>rfl
 |b::r,n=>by simp[dgL,zoW r n]
end
end Go.Rse
