/-
  A slice cut to its o.
-/
import Derived.Lib.AppendZeros
import Derived.Test.YtbopkhoalndflaaGreatDoorUJRul7
set_option linter.all false
namespace Go.Rse
open Go Go.RowKit Go.Proofs.Tryz
section
section
variable{P:Program}{C:Ctx}{st:St}{ty:TypeId}{Q:Exit->St->Prop}
def zmB{α:Type}{enc:α->List AV}{l:List α}{g:Gh}{a:Act}{w:World}{v:Value}{s:Nat}{ρ:Nat->Value}(hr:Rel C st g a w)(hv:RV g.I ρ (.sl enc l) v)(hs:0<s)(he:∀z,(enc z).length=s):
 ∃A c news,v=.slice A l.length c/\l.length<=c/\news.length=l.length*s/\RVL g.I noNames (l.flatMap enc) news/\(l≠[]->∃b o,A=some ⟨b,o,none⟩/\∀j u,news[j]? =some u->w.cell? ⟨b,o+j,none⟩=some u):=by
 obtain⟨A,b,o,s',c,vs,e,hA,U,_,h1,h2,h3⟩:=zdl hv
 have T:l≠[]->s'=s:=λV=>by
  cases l with
  |nil=>grind
  |cons p r=>exact(h1 0 p (by simp)).symm.trans (he p)
 have N:∀(i:Nat)x,l[i]? =some x->(enc x).length=s:=λi x _=>he x
 have Z:∀j u,((List.range (l.length*s)).map λq=>vs (q/s) (q%s))[j]? =some u->j<l.length*s/\u=vs (j/s) (j%s):=λj u hu=>by
  grind
 refine⟨A,c,(List.range (l.length*s)).map λq=>vs (q/s) (q%s),e,U,by simp,⟨by simp[zI l N],λj c v hc hv=>?_⟩,λV=>⟨b,o,hA V,λj u hu=>?_⟩⟩
 ·obtain⟨J,rfl⟩:=Z j v hv;have H:j/s<l.length:=uU (by rw[wM];exact J);have E:j/s*s+j%s=j:=by rw[wM];exact vG j s
  have xT:j%s<s:=vY _ hs;have hp:=lgg H
  grind[zd0]
 ·obtain⟨J,rfl⟩:=Z j u hu;have H:j/s<l.length:=uU (by rw[wM];exact J);have E:j/s*s+j%s=j:=by rw[wM];exact vG j s
  have e2:=T V;subst e2;have:=h2 (j/s') _ (j%s') (lgg H) (vY _ hs);have h4:=(hr.sat.im _ _ _ this).1
  grind
def zzo{c:Code}{α:Type}{enc:α->List AV}{l:List α}(t kh:Nat)(h:∀A n,l.length<=n->X P C c ⟨(t,.val (.slice A l.length n))::st.t,(kh,.hold [.slice A l.length n] [.sl enc l])::st.h⟩ Q)
 (hx:lk st.t t=some (.sl enc l):=by exact rfl):X P C c st Q:=λg a w hr=>by
 have hv:=hr.tmps t _ hx;obtain⟨A,b,o,s,n,vs,e,I,T,-⟩:=zdl hv
 have V:=hr.withBlk (k:=kh) (B:=.hold [.slice A l.length n] [.sl enc l]) ⟨rfl,λj c' v N J=>by
  grind⟩
 refine h A n T g a w ⟨V.size,V.defers,λt' x Z=>?_,V.sat,V.ext⟩;simp only[yp]at Z;cases U:t.beq t'<;>simp[U]at Z
 ·exact V.tmps t' x Z
 ·have:t=t':=by simpa using U
  subst this;subst Z;rw[e];exact .val _
def zky{A:Option Addr}{n c:Nat}{x:Operand}{t E:TypeId}(hx:ev st x=some (.val (.slice A n c)))(h:slOk P t E=true):
 Pur P C (.call {callee:=.builtin .len,args:= #[x],argTypes:= #[t]}) ty st (.int .i64 n):=λg a w dst pos af gd hr=>
 ⟨_,zfx h (zbW (yu hr hx)),.int _ _⟩
def zpH(a:Addr):a.add 0=a:=by rfl
def zwS{A:Option Addr}{n c s:Nat}{x y z:Operand}{t E:TypeId}{ag:Bool}(hx:ev st x=some (.val (.slice A n c)))(V:ev st y=some (.int .i64 n))(U:ev st z=some (.int .i64 n))(ht:slOk P t E=true)(hE:tyOk P E ag s=true)(Z:n<=c):
 Pur P C (.slice t x none (some y) (some z)) ty st (.val (.slice A n n)):=λg a w dst pos af gd hr=>by
 have ex:=zbW (yu hr hx);have ey:=yW (yu hr V);have ez:=yW (yu hr U)
 have T:(Instr.sliceBounds true n c none (some (.int .i64 (n:Int))) (some (.int .i64 (n:Int)))).run P w=.ok (0,n,n) w:=by
  simp[Instr.sliceBounds,Instr.sliceBound,asIntOf,Z]
 refine⟨_,?_,.val _⟩
 have hm:(if n=0 then A else Option.map (λx=>x.add 0) A)=A:=by
  simp[zpH]
 simp[execOp,Instr.sliceAt,Instr.slice,run_underlying (yZ ht),ex,ey,ez,T,yY hE,hm]
def zj5{α:Type}{enc:α->List AV}{l l2:List α}{A:Option Addr}{c k kh:Nat}{t E:TypeId}{z:Value}{s bytes:Nat}{x y:Operand}
 (hx:ev st x=some (.val (.slice A l.length l.length)))(hh:lk st.h kh=some (.hold [.slice A l.length c] [.sl enc l]))(hy:ev st y=some (.sl enc l2))(ht:slOk P t E=true)(hi:zz P E z s bytes)(hs:0<s)(w2:bytes<=1024)(he:∀z,(enc z).length=s)
 (h2:0<l2.length)(J:l.length+l2.length<=4000000000):yA P C (.call {callee:=.builtin .append,args:= #[x,y],argTypes:= #[t,t]}) ty st (.own k) (some (k,.row enc (l++l2) E s)):=
 zC λg a w dst pos af gd hr=>by
  obtain⟨i,H,xT,U,x4,v9⟩:=hi;have T:=yZ ht;have ex:=zbW (yu hr hx);obtain⟨A2,c2,news,ey,k5,N,j2,x3⟩:=zmB (s:=s) hr (yu hr hy) hs he;obtain⟨_,hq⟩:=hr.sat.blk kh _ hh;obtain⟨A1,c1,olds,e1,k4,V,j0,hold⟩:=zmB (s:=s) hr (hq 0 _ _ rfl rfl) hs he;injection e1 with e1 _ _;subst e1;obtain⟨b2,o2,v8,hZ⟩:=x3 (vL.1 h2);subst v8
  have x2:(l.length+l2.length)*bytes<=140737488355328:=by
   have:(l.length+l2.length)*bytes<=4000000000*1024:=vZ J w2;omega
  have x1:∀(i:Nat)x,(l++l2)[i]? =some x->(enc x).length=s:=λi x _=>he x
  have v5:RVL g.I noNames ((l++l2).flatMap enc) (olds++news):=by grind[RVL]
  have v4:(olds++news).length=(l.length+l2.length)*s:=by grind
  have main:∃cap,(Builtin.append_ #[t,t] ty #[.slice A l.length l.length,.slice (some ⟨b2,o2,none⟩) l2.length c2]).run P w=.ok (.slice (some ⟨w.heap.size,0,none⟩) (l.length+l2.length) cap) (w.drew.alloc (.cells (olds.toArray++news.toArray++Builtin.zeroCells z.cells (cap-(l.length+l2.length))) E))/\l.length+l2.length<=cap/\cap<=maxLen:=by
   have v3:l.length+l2.length<=maxLen:=by simp only[maxLen];omega
   have hY:=grownCap_ge w (l.length+l2.length) l.length E;have x0:=grownCap_le_maxLen w (l.length+l2.length) l.length E v3;have Z:∀j u,news[j]? =some u->w.cell? ((⟨b2,o2,none⟩:Addr).add j)=some u:=λj u T=>by grind[zK]
   cases hA:A with
   |none=>
    have v1:l=[]:=by
     cases l with
     |nil=>rfl
     |cons p r=>obtain⟨b,o,h,_⟩:=hold (by simp);rw[hA]at h;cases h
    subst v1;have ho:olds=[]:=jQ (by simpa using V);subst ho;have v0:=run_append_nil (P:=P) w t ty E i z T H xT ⟨b2,o2,none⟩ l2.length c2 news (by rw[U];exact N) Z h2 (by omega) (by rw[x4];simp only[u4,vP]at x2;omega)
    grind
   |some ad=>
    have u3:∀j u,olds[j]? =some u->w.cell? (ad.add j)=some u:=λj u T=>by
     have u2:l≠[]:=λe=>by
      subst e;have:olds=[]:=jQ (by simpa using V);rw[this]at T;simp at T
     obtain⟨b,o,h,hc⟩:=hold u2;rw[hA]at h;injection h with h;subst h;rw[zK];exact hc j u T
    have v0:=run_append_grow (P:=P) w t ty E i z T H xT ad l.length l.length olds (by rw[U];exact V) u3 ⟨b2,o2,none⟩ l2.length c2 news (by rw[U];exact N) Z (by omega) (by omega) (growslice_fits (by omega) (by rw[x4];exact x2))
    grind
  obtain⟨cap,k3,u1,x0⟩:=main;have hg:Grow w (w.drew.alloc (.cells (olds.toArray++news.toArray++Builtin.zeroCells z.cells (cap-(l.length+l2.length))) E)):=(Grow.drew w).trans (Grow.alloc _ _);refine⟨.slice (some ⟨w.heap.size,0,none⟩) (l.length+l2.length) cap,_,g.nw C.d w.heap.size k (.slice (some ⟨w.heap.size,0,none⟩) (l.length+l2.length) cap),?_,Add.nw hg C.d k _,.own k _ _ _ (by simp[Gh.nw]),ImOB.nw ⟨hr.sat.im,hr.sat.ob⟩ hg (by simp) C.d k _,λk' B hB=>?_⟩
  ·simp_all[execOp,resolve,invoke,builtin]
  ·injection hB with hB;injection hB with e1 e2;subst e1;subst e2;refine⟨olds++news,?_,x1,zby x1 v5,λb hb=>?_⟩
   ·simp only[Gh.nw,if_true,jI];refine⟨v4,.inr ⟨w.heap.size,cap,_,rfl,wH _,heap_alloc_new w.drew _,u1,x0,?_,?_⟩⟩
    ·simp only[Array.size_append,List.size_toArray,size_zeroCells,v9,V,N,←Nat.add_mul];congr 1;omega
    grind
   ·simp only[Gh.nw,if_true,yX]at hb;injection hb with hb;subst hb;exact⟨by simp[Gh.nw],.inl hr.ext.size⟩
end
end
section
def nlA{α:Type}(enc:α->List AV):Option (List α)->AV
 |none=>.nils
 |some l=>.sl enc l
section
variable{P:Program}{C:Ctx}{st:St}{ty:TypeId}{Q:Exit->St->Prop}
def zlq{T E:TypeId}{w:World}(Z:P.underlying T=some (.slice E))(A:Option Addr)(n c:Nat):(Op.equal T (.slice A n c) (.slice none 0 0)).run P w=.ok A.isNone w:=by
 unfold Op.equal;rw[show Op.maxDepth=9999+1 from rfl];unfold Op.equalIn;cases A<;>simp[run_underlying Z]
def zq4{α:Type}{enc:α->List AV}{o:Option (List α)}{I:Im}{ρ:Nat->Value}{v:Value}(h:RV I ρ (nlA enc o) v)(Z:∀l,o=some l->l≠[]):∃A n c,v=.slice A n c/\A.isNone=!o.isSome:=by
 cases o with
 |none=>exact⟨none,0,0,zbU h,rfl⟩
 |some l=>
  obtain⟨A,b,o,s,c,vs,e,V,-⟩:=zdl h;exact⟨A,_,c,e,by rw[V (Z l rfl)];rfl⟩
def zwT{α:Type}{enc:α->List AV}{o:Option (List α)}{T E:TypeId}{x:Operand}{yt:TypeId}(V:P.underlying T=some (.slice E))(hx:ev st x=some (nlA enc o))(Z:∀l,o=some l->l≠[]):Pur P C (.binOp .neq T x (.const (.slice none 0 0)) yt) ty st (.bool o.isSome):=λg a w dst pos af gd hr=>by
 obtain⟨A,n,c,e,h⟩:=zq4 (yu hr hx) Z;have e0:a.eval (.const (.slice none 0 0))=.slice none 0 0:=rfl;refine⟨.bool o.isSome,?_,.bool _⟩;have U:(eqGuard .neq T x (.const (.slice none 0 0)) (.slice A n c) (.slice none 0 0)).run P w=.ok () w:=by unfold eqGuard;simp
 have N:=zlq (P:=P) (w:=w) V A n c;simp only[execOp,e,e0,jM,U,jB,binOp,N,jN,h,Bool.not_not]
def zzp{α:Type}{enc:α->List AV}{o:Option (List α)}{T E:TypeId}{x:Operand}{yt:TypeId}(V:P.underlying T=some (.slice E))(hx:ev st x=some (nlA enc o))(Z:∀l,o=some l->l≠[]):Pur P C (.binOp .eql T x (.const (.slice none 0 0)) yt) ty st (.bool (!o.isSome)):=λg a w dst pos af gd hr=>by
 obtain⟨A,n,c,e,h⟩:=zq4 (yu hr hx) Z;have e0:a.eval (.const (.slice none 0 0))=.slice none 0 0:=rfl;refine⟨.bool (!o.isSome),?_,.bool _⟩;have U:(eqGuard .eql T x (.const (.slice none 0 0)) (.slice A n c) (.slice none 0 0)).run P w=.ok () w:=by unfold eqGuard;simp
 have N:=zlq (P:=P) (w:=w) V A n c;simp only[execOp,e,e0,jM,U,jB,binOp,N,jN,h]
def zq5{ops:Array Oper}{rest:List Oper}{d:Nat}{pos:String}{af:Array Edge}{α:Type}{enc:α->List AV}{l:List α}{T E:TypeId}{x:Operand}{yt:TypeId}(h:∀b:Bool,(l≠[]->b=false)->Ex P C ops rest ⟨(d,.bool b)::st.t,st.h⟩ Q)
 (V:P.underlying T=some (.slice E))(hx:ev st x=some (.sl enc l):=by exact rfl)(U:dOk C.n (some d)=true:=by exact rfl):
 Ex P C ops ({dst:=some d,op:=.binOp .eql T x (.const (.slice none 0 0)) yt,type:=ty,pos:=pos,after:=af,guard:=none}::rest) st Q:=λg a w hr=>by
 obtain⟨A,b,o,s,c,vs,e,N,-⟩:=zdl (yu hr hx);have e0:a.eval (.const (.slice none 0 0))=.slice none 0 0:=rfl;have J:(eqGuard .eql T x (.const (.slice none 0 0)) (.slice A l.length c) (.slice none 0 0)).run P w=.ok () w:=by unfold eqGuard;simp
 have I:=zlq (P:=P) (w:=w) V A l.length c;refine wpListIn_plain rfl λK' H=>zaz ?_
 simp only[wp1,execOp,e,e0,jM,J,jB,binOp,I,jN,zcJ];refine H _ _ ?_;exact h A.isNone (λZ=>by rw[N Z];rfl) _ _ _ (hr.addSt (nb:=none) (d:=some d) (x:=.bool A.isNone) (v:=.bool A.isNone) (Add.refl _ g w) U rfl (.bool _) hr.sat.im hr.sat.ob (λ_ _ h=>by cases h))
end
end
section
section
variable{P:Program}{C:Ctx}{st:St}{ty:TypeId}{Q:Exit->St->Prop}
def zi5{x:Operand}{t E:TypeId}(hx:ev st x=some .nils)(h:slOk P t E=true):
 Pur P C (.call {callee:=.builtin .cap,args:= #[x],argTypes:= #[t]}) ty st (.int .i64 0):=λg a w dst pos af gd hr=>
 ⟨.int .i64 0,by
  have e:=zbU (yu hr hx);simp[execOp,resolve,invoke,builtin,Builtin.cap_,e,run_underlying (yZ h)];rfl,.int _ _⟩
def zmC{x y:Operand}{t E:TypeId}{s:Nat}{ag:Bool}(hx:ev st x=some .nils)(Z:ev st y=some (.int .i64 0))(h:slOk P t E=true)(hE:tyOk P E ag s=true):
 Pur P C (.slice t x none (some y) none) ty st .nils:=λg a w dst pos af gd hr=>by
 have ex:=zbU (yu hr hx);have ey:=yW (yu hr Z);refine⟨.slice none 0 0,?_,.nils⟩
 have:(Instr.sliceBounds true 0 0 none (some (.int .i64 0)) none).run P w=.ok (0,0,0) w:=by
  rfl
 simp[execOp,Instr.sliceAt,Instr.slice,run_underlying (yZ h),ex,ey,this,yY hE]
def anyE(s:Nat):Unit->List AV:=λ_=>List.replicate s .any
def zs9{t tn E:TypeId}{z:Value}{s bytes n k:Nat}{kn:IntKind}{x y:Operand}{p:Int}(ht:slOk P t E=true)(U:P.underlying tn=some (.int kn))(hi:zz P E z s bytes)(hs:0<s)(T:bytes<=1024)
 (hx:ev st x=some .nils)(hy:ev st y=some (.int .i64 p))(hp:p=(n:Int))(h0:0<n)(hn:n<=4000000000):yA P C (.call {callee:=.builtin .append,args:= #[x,y],argTypes:= #[t,tn]}) ty st (.own k) (some (k,.row (anyE s) (List.replicate n ()) E s)):=
 zC λg a w dst pos af gd hr=>by
  obtain⟨i,N,J,x2,I,Z⟩:=hi;subst hp;have hu:=yZ ht;have ex:=zbU (yu hr hx);have ey:=yW (yu hr hy)
  have x1:n*bytes<=140737488355328:=by
   have:n*bytes<=4000000000*1024:=vZ hn T;omega
  have H:n<=maxLen:=by simp only[maxLen];omega
  have xT:=grownCap_ge w n 0 E;have x4:=grownCap_le_maxLen w n 0 E H;have x0:=Go.Lib.run_append_nil_zeros (P:=P) w t tn ty E i z .i64 kn hu U N J n h0 (by omega) (by omega) (by rw[I];omega);have hg:Grow w (w.drew.alloc (.cells (Builtin.zeroCells z.cells n++Builtin.zeroCells z.cells (grownCap w n 0 E-n)) E)):=(Grow.drew w).trans (Grow.alloc _ _);have x3:∀(i:Nat)x,(List.replicate n ())[i]? =some x->(anyE s x).length=s:=λi x _=>by simp[anyE]
  refine⟨.slice (some ⟨w.heap.size,0,none⟩) n (grownCap w n 0 E),_,g.nw C.d w.heap.size k (.slice (some ⟨w.heap.size,0,none⟩) n (grownCap w n 0 E)),?_,Add.nw hg C.d k _,.own k _ _ _ (by simp[Gh.nw]),ImOB.nw ⟨hr.sat.im,hr.sat.ob⟩ hg (by simp) C.d k _,λk' B hB=>?_⟩
  ·simp_all[execOp,resolve,invoke,builtin]
  ·injection hB with hB;injection hB with e1 e2;subst e1;subst e2;refine⟨(Builtin.zeroCells z.cells n).toList,?_,x3,λj x q c v hx hc hv=>?_,λb V=>?_⟩
   ·simp only[Gh.nw,if_true,uL];refine⟨by rw[Array.length_toList,size_zeroCells,Z],.inr ⟨w.heap.size,grownCap w n 0 E,_,rfl,wH _,heap_alloc_new w.drew _,xT,x4,?_,?_⟩⟩
    ·simp only[Array.size_append,size_zeroCells,Z,←Nat.add_mul];congr 1;omega
    simp_all[size_zeroCells]
   ·have:c=.any:=by
     simp_all[anyE,uB]
    subst this;exact .any _
   ·simp only[Gh.nw,if_true,yX]at V;injection V with V;subst V;exact⟨by simp[Gh.nw],.inl hr.ext.size⟩
end
def zq6{C:Ctx}{st:St}{α β:Type}(enc':β->List AV)(k E s:Nat){enc:α->List AV}{l:List α}(h:lk st.h k=some (.row enc l E s))(hl:l=[]):Imp C st {t:=st.t,h:=(k,.row enc' [] E s)::st.h}:=λg a w hr=>by
 subst hl;obtain⟨xs,Z,U,T,V⟩:=hr.sat.blk k _ h;exact⟨_,hr.withBlk (k:=k) (B:=.row enc' [] E s) ⟨xs,Z,λi x h=>by simp at h,λi x j c v h=>by simp at h,V⟩⟩
end
end Go.Rse
namespace Go.Rse
open Go Go.Proofs Go.Proofs.Tryz
section
def flK(L:List (List Sg))(k:Nat):List Sg:=(L.take k).flatten
def zvh{L:List (List Sg)}{k:Nat}{s:List Sg}(h:L[k]? =some s):flK L k++s=flK L (k+1):=by
 unfold flK;rw[jA,h];simp
def zzq(L:List (List Sg)):[]=flK L 0:=rfl
def zzr(L:List (List Sg)):flK L L.length=L.flatten:=by unfold flK;rw[j9]
def znw(L:List (List Sg))(k:Nat):(flK L k).length<=L.flatten.length:=by
 have:L.flatten=(L.take k).flatten++(L.drop k).flatten:=by rw[←List.flatten_append,w5]
 unfold flK;rw[this,jI];omega
attribute [local irreducible] Pur yA yC Ex X Fn Imp LeV LeB FnO It yH FnW FnOW FnP FnD
attribute [local irreducible] flK
def zb4(n:Int)(h0:0<=n)(U:n<=1000000):FnO prog 204 [.nils,iv n] [] [] (.own 5) [(5,.row sgE [] 90 17)]:=by
 refine bB (ts:=[(0,.nils),(1,iv n)]) (rv:=[.tmp 4]) (n:=27) (cs:=[]) (by kernel_rfl) func204 rfl ntmps204 rfl rfl (by simp) rfl rfl rfl rfl (λg w d vs=>?_);refine gd ?_ ?_<;>intro Z
 ·omega
 apply yl;apply yf;apply ye;iterate 2 refine ya ?_
 refine ya (hs:=zi5 rfl SlK.h) ?_;refine gd ?_ ?_<;>intro V
 ·apply yj;iterate 2 refine ya ?_
  refine ya (hs:=zi5 rfl SlK.h) ?_;refine ya (hs:=zmC rfl rfl SlK.h TyK.h) ?_;refine gq ?_;refine kS (zs9 (k:=5) (n:=n.toNat) SlK.h Tryz.underlying3 TiK.h (by decide) (by decide) rfl rfl (by omega) (by omega) (by omega)) rfl rfl ?_;refine gq ?_;refine zag (zrQ rfl rfl rfl SlK.h TyK.h (by omega) (by simp;omega) rfl) ?_;refine ya ?_;apply yG;refine yL ?_;refine kE ?_;refine zo8.imp (zq6 (enc:=anyE 17) (l:=(List.replicate n.toNat ()).take (0:Int).toNat) sgE 5 90 17 (by exact rfl) (by simp)) ?_;refine zo8.mk (ts:=[(4,.own 5)]) (.inr rfl) (yd) (.one (.tmp rfl (kB rfl)))
 ·apply yl;apply ye;refine yL ?_;refine kE ?_;refine zo8.imp (yE sgE 90 17 4 5 rfl rfl) ?_;refine zo8.mk (ts:=[(4,.own 5)]) (.inr rfl) (yd) (.one (.tmp rfl (kB rfl)))
set_option maxHeartbeats 1000000 in
def zbD(L:List (List Sg))(hL:L.length<=1000000)(hf:L.flatten.length<=1000000):Fn prog 163 [zp L] (sgsA L.flatten):=by
 have V:[]=flK L 0:=zzq L;have J:(0:Int)=((flK L 0).length:Int):=by rw[←V];rfl
 refine kC func163 ntmps163 (λg w d=>?_);apply ye;refine ya ?_;apply yG;refine yi ?_;apply yf;apply ye;refine yq ?_;apply kA;refine ze (λk=>[(0,zp L),(2,.nils),(3,iv ((flK L k).length:Int)),(9,zp L),(10,iv (L.length:Int)),(11,iv (k:Int))]) (λk=>[]) L.length (λk I=>?_);refine gd ?_ ?_<;>intro H
 ·obtain⟨s,hs⟩:∃s,L[k]? =some s:=⟨_,lgg (by omega)⟩;have U:L[(k:Int).toNat]? =some s:=by simpa using hs
  have Z:=zvh hs;have T:=znw L (k+1);have N:((flK L (k+1)).length:Int)=((flK L k).length:Int)+(s.length:Int):=by rw[←Z];simp
  refine gd ?_ ?_<;>intro E
  ·omega
  refine gq ?_;refine yo (k+1) (hI:=yg)
 ·obtain rfl:k=L.length:=by omega
  refine gq ?_;refine zai [(5,30)] (zb4 ((flK L L.length).length:Int) (by omega) (by have:=znw L L.length;omega)) ?_;refine yi ?_;apply yf;apply ye;refine yq ?_;apply kA;refine ze (λk=>[(2,.nils),(6,.own 30),(25,zp L),(26,iv (L.length:Int)),(27,iv (k:Int))]) (λk=>[(30,.row sgE (flK L k) 90 17)]) L.length (λk I=>?_);refine gd ?_ ?_<;>intro xT
  ·obtain⟨s,hs⟩:∃s,L[k]? =some s:=⟨_,lgg (by omega)⟩;have U:L[(k:Int).toNat]? =some s:=by simpa using hs
   have Z:=zvh hs;have T:=znw L (k+1);have N:((flK L (k+1)).length:Int)=((flK L k).length:Int)+(s.length:Int):=by rw[←Z];simp
   apply yl;apply yf;apply kA;apply ye;refine yq ?_;apply yj;(iterate 2 refine ya ?_);refine zag (zv (l:=flK L k) (l2:=s) rfl rfl rfl SlK.h TiK.h (by decide) (by decide) (λ_=>rfl) (λ_=>rfl) (by omega) rfl) ?_;refine gq ?_;refine yo (k+1) (hI:=yg)
  ·obtain rfl:k=L.length:=by omega
   have hV:=zzr L;apply kK;apply ye;refine yL ?_;refine kE ?_;refine k8 (k9 (k:=30) rfl) ?_;refine gq ?_;all_goals(first|exact j6 (λz=>sgsA z) hV|rfl)
end
section
def wuL:List (List (List Sg))->List Sg->List (List Sg)
 |[],r=>[r]
 |f::F,r=>f.flatMap λx=>wuL F (r++x)
def wuX(F:List (List (List Sg)))(r:List Sg):List (List AV):=(wuL F r).map λx=>[sgsA x]
def wuK(f:List (List Sg))(F:List (List (List Sg)))(r:List Sg)(k:Nat):Nat:=((f.take k).flatMap λx=>wuL F (r++x)).length
def zfp{F:List (List (List Sg))}{r:List Sg}{j:Nat}{zs:List AV}(h:(wuX F r)[j]? =some zs):∃x,(wuL F r)[j]? =some x/\zs=[sgsA x]:=by
 rw[wuX,jJ]at h;cases Z:(wuL F r)[j]? with
 |none=>simp[Z]at h
 |some k=>simp[Z]at h;exact⟨k,rfl,h.symm⟩
def zwU(r:List Sg):(wuX [] r)[0]? =some [sgsA r]:=rfl
def zq7{f:List (List Sg)}{F:List (List (List Sg))}{r s:List Sg}{k:Nat}(h:f[k]? =some s):wuL (f::F) r=(f.take k).flatMap (λx=>wuL F (r++x))++(wuL F (r++s)++(f.drop (k+1)).flatMap λx=>wuL F (r++x)):=by
 have Z:=j1.1 h;have e:f=f.take k++s::f.drop (k+1):=by rw[←Z.2,←jG Z.1,w5]
 show f.flatMap _=_;conv=>lhs;rw[e]
 rw[uH,wV]
def zzs{f:List (List Sg)}{F:List (List (List Sg))}{r s x:List Sg}{k j:Nat}(h:f[k]? =some s)(hx:(wuL F (r++s))[j]? =some x):(wuX (f::F) r)[wuK f F r k+j]? =some [sgsA x]:=by
 unfold wuX;rw[jJ,zq7 h,wK (by unfold wuK;omega)];have Z:=(j1.1 hx).1;rw[uI (by unfold wuK;omega)];have:wuK f F r k+j-((f.take k).flatMap λx=>wuL F (r++x)).length=j:=by unfold wuK;omega
 rw[this,hx];rfl
def zzt(f:List (List Sg))(F:List (List (List Sg)))(r:List Sg):0=wuK f F r 0:=by unfold wuK;simp
def zzu{f:List (List Sg)}{F:List (List (List Sg))}{r s:List Sg}{k:Nat}(h:f[k]? =some s):wuK f F r k+(wuX F (r++s)).length=wuK f F r (k+1):=by
 unfold wuK wuX;rw[jA,h,uH,jI,jO];simp
def zzv(f:List (List Sg))(F:List (List (List Sg)))(r:List Sg):wuK f F r f.length=(wuX (f::F) r).length:=by
 unfold wuK wuX;rw[jO,j9];rfl
attribute [local irreducible] Pur yA yC Ex X Fn Imp LeV LeB FnO It yH FnW FnOW FnP FnD
attribute [local irreducible] wuX wuK wuL
def zep(r:List Sg)(F:List (List (List Sg))):Fn prog 117 [sgsA r,chsA F] (.fn 162 [.ept (λ_:Unit=>[chsA F]) () 0,.ept (λ_:Unit=>[sgsA r]) () 0]):=by
 refine kC func117 ntmps117 (λg w d=>?_);apply ye;iterate 2 refine zcK ?_
 refine ya ?_;apply yG;refine yL ?_;refine kE ?_;refine k8 ((yR (k:=2) rfl rfl).trans (yR (k:=3) rfl rfl)) ?_;refine gq ?_;all_goals exact zR
def zeB(r:List Sg):It prog 162 [.ept (λ_:Unit=>[chsA []]) () 0,.ept (λ_:Unit=>[sgsA r]) () 0] (wuX [] r):=by
 refine bF (ts:=λlY=>[(0,.yv lY),(1,.ept (λ_:Unit=>[chsA []]) () 0),(2,.ept (λ_:Unit=>[sgsA r]) () 0)]) (n:=34) (by kernel_rfl) func162 rfl ntmps162 rfl (λ_=>rfl) (by simp) (λg w d ds Y lY V=>?_);apply ye;refine zcK ?_;refine gd ?_ ?_<;>intro Z
 ·apply ye;iterate 2 refine ya ?_
  refine Ex.yield V rfl rfl rfl (kP _) rfl rfl (zwU r) rfl (λb=>?_);apply kL;refine kE ?_;refine⟨.inr rfl,_,b,rfl,λU=>by subst U;unfold wuX wuL;rfl⟩
 simp at Z
set_option maxHeartbeats 2000000 in
def zee(r:List Sg)(G F:List (List (List Sg)))(f:List (List Sg))(I:G[(0:Int).toNat]? =some f)(U:G.drop (1:Int).toNat=F)(H:0<G.length)(E:G.length<=1000000)(hr:r.length<=100000)(hf:f.length<=1000000)(hF:∀s∈f,s.length<=100000)(ih:∀s∈f,It prog 162 [.ept (λ_:Unit=>[chsA F]) () 0,.ept (λ_:Unit=>[sgsA (r++s)]) () 0] (wuX F (r++s))):It prog 162 [.ept (λ_:Unit=>[chsA G]) () 0,.ept (λ_:Unit=>[sgsA r]) () 0] (wuX (f::F) r):=by
 have xT:=zzt f F r;refine bF (ts:=λlY=>[(0,.yv lY),(1,.ept (λ_:Unit=>[chsA G]) () 0),(2,.ept (λ_:Unit=>[sgsA r]) () 0)]) (n:=34) (by kernel_rfl) func162 rfl ntmps162 rfl (λ_=>rfl) (by simp) (λg w d ds Y lY hY=>?_);apply ye;refine zcK ?_;refine gd ?_ ?_<;>intro x4
 ·omega
 apply yl;apply ye;iterate 2 refine ya ?_
 refine yq ?_;apply kA;refine ze (λk=>[(1,.ept (λ_:Unit=>[chsA G]) () 0),(2,.ept (λ_:Unit=>[sgsA r]) () 0),(3,.ptr 3 0 0 0),(15,zp f),(16,iv (f.length:Int)),(17,iv (k:Int))]) (λk=>[(3,.box [.yv lY] 146),(1000000,.yld (wuK f F r k) true)]) f.length (λk hk=>?_);refine gd ?_ ?_<;>intro x3
 ·obtain⟨s,hs⟩:∃s,f[k]? =some s:=⟨_,lgg (by omega)⟩;have x2:f[(k:Int).toNat]? =some s:=by simpa using hs
  have x1:=zzu (F:=F) (r:=r) hs;have x0:=hF s (j5 hs);have N:=zbD [r,s] (by simp) (by simp;omega);rw[show[r,s].flatten=r++s by simp]at N;have hR:Fn prog 117 [sgsA (r++s),chsA (G.drop (1:Int).toNat)] (.fn 162 [.ept (λ_:Unit=>[chsA F]) () 0,.ept (λ_:Unit=>[sgsA (r++s)]) () 0]):=by rw[U];exact zep (r++s) F
  refine gq ?_;refine yQ [21,22,23,24,25,26,27] [0,0,3,7,0,16,63] mo ?_;iterate 2 refine yb ?_
  refine ChM.step rfl rfl rfl (zr5 (enc:=sgsE) (l:=[r,s]) sl56 ty33 ze33) rfl ?_;refine yI N ?_;refine yb ?_
  first
   |refine ChM.step rfl rfl rfl (k7 (zG rfl rfl rfl zm8 ty56 (by omega) (by omega))) rfl ?_
   |refine ChM.step rfl rfl rfl (k7 (zah rfl rfl zm8 ty56 (λ_=>rfl) (by omega) (by omega))) rfl ?_
  refine yI hR ?_;refine yx ?_;refine gq ?_;refine bE (sl:=[1,2,3,15,16,17]) (λj=>([.ept (λ_:Unit=>[chsA G]) () 0,.ept (λ_:Unit=>[sgsA r]) () 0,.ptr 3 0 0 0,zp f,iv (f.length:Int),iv (k:Int)],[(3,.box [.yv lY] 146),(1000000,.yld (wuK f F r k+j) true)])) (λj=>True) 900001 900002 rfl rfl (by decide) (λj zs Z=>by obtain⟨_,_,rfl⟩:=zfp Z;rfl) ((ih s (j5 hs))) trivial rfl rfl (by decide) (jE _) (by simp) (λj zs Z=>by obtain⟨_,_,rfl⟩:=zfp Z;rfl) (λ_=>rfl) rfl rfl (λl o us=>yd) (trivial) (λj zs Z hJ l ready busy rb vs g w J w2=>?_) (λhJ=>?_)
  ·have T:=zfp Z;obtain⟨x,hx,rfl⟩:=T;apply yj;refine yi ?_;refine⟨rfl,rfl,?_⟩;apply kA;apply ye;(iterate 2 refine ya ?_);refine Ex.yield hY rfl rfl rfl (kP _) rfl rfl (zzs hs hx) rfl (λb=>?_);refine gd ?_ ?_<;>intro V
   ·subst V;refine kE ?_;refine⟨[.ept (λ_:Unit=>[chsA G]) () 0,.ept (λ_:Unit=>[sgsA r]) () 0,.ptr 3 0 0 0,zp f,iv (f.length:Int),iv (k:Int)],[(3,.box [.yv lY] 146),(1000000,.yld (wuK f F r k+j) false)],yd,?_⟩;refine⟨.inr rfl,_,false,rfl,λJ=>by simp at J⟩
   subst V;apply yl;refine⟨[.ept (λ_:Unit=>[chsA G]) () 0,.ept (λ_:Unit=>[sgsA r]) () 0,.ptr 3 0 0 0,zp f,iv (f.length:Int),iv (k:Int)],[(3,.box [.yv lY] 146),(1000000,.yld (wuK f F r k+(j+1)) true)],yd,rfl,trivial⟩
  refine gq ?_;refine yo (k+1) (hI:=yg)
 ·obtain rfl:k=f.length:=by omega
  have hV:=zzv f F r;apply kK;refine⟨.inl rfl,_,true,rfl,λ_=>hV⟩
def zgU(F:List (List (List Sg))):∀(r:List Sg),F.length<=1000000->r.length+2*F.length<=100000->(∀f∈F,f.length<=1000000/\∀s∈f,s.length<=2)->It prog 162 [.ept (λ_:Unit=>[chsA F]) () 0,.ept (λ_:Unit=>[sgsA r]) () 0] (wuX F r):=by
 induction F with
 |nil=>exactλr _ _ _=>zeB r
 |cons f F ih=>
  intro r T N U;rw[jY]at T N;have Z:=U f xF;refine zee r (f::F) F f rfl rfl (by rw[jY];omega) (by rw[jY];omega) (by omega) Z.1 (λs hs=>by have:=Z.2 s hs;omega) (λs hs=>ih (r++s) (by omega) (by have:=Z.2 s hs;rw[jI];omega) (λf' V=>U f' (wQ _ V)))
end
section
def minL:List Int->Int->Int
 |[],a=>a
 |x::r,a=>minL r (if x<a then x else a)
def meV(m:Mn):Int:=match perfL m with
 |[]=>3
 |x::r=>minL r x
def meU(m:Mn):Tm:=yy m (meV m)
def whB(u s:Tm):Bool:=decide (whE s u=0)&&decide ((whR s u).N=0)
def bkE(u:Tm):Tm->List Bt->Int
 |_,[]=>0
 |s,b::r=>if addE s b.Dur=0 then bkE u (if whB u (addV s b.Dur)then⟨0,1⟩else addV s b.Dur) r else addE s b.Dur
def bkV(u:Tm):Tm->List Bt->List Bt->List (List Bt)
 |_,k,[]=>if k=[]then[]else[k]
 |s,k,b::r=>if whB u (addV s b.Dur)then(k++[b])::bkV u ⟨0,1⟩ [] r else bkV u (addV s b.Dur) (k++[b]) r
def blE(m:Mn)(l:List Bt):Int:=if wcE m l=0 then bkE (meU m) ⟨0,1⟩ l else wcE m l
def blV(m:Mn)(l:List Bt):List (List Bt):=if blE m l=0 then bkV (meU m) ⟨0,1⟩ [] l else[]
def btsE:List Bt->List AV:=λl=>[btsA l]
abbrev blsA(L:List (List Bt)):AV:=.sl btsE L
def suK(s:Tm)(l:List Bt):Nat->Tm
 |0=>s
 |k+1=>addV (suK s l k) (l.getD k default).Dur
def zi6{s:Tm}{l:List Bt}{k:Nat}{b:Bt}(h:l[k]? =some b):suK s l (k+1)=addV (suK s l k) b.Dur:=by
 show addV (suK s l k) (l.getD k default).Dur=_;rw[j8,h];rfl
structure BlK(u:Tm)(l:List Bt)(k:Nat):Prop where
 e:bkE u ⟨0,1⟩ l=bkE u (suK ⟨0,1⟩ l k) (l.drop k)
 v:bkV u ⟨0,1⟩ [] l=bkV u (suK ⟨0,1⟩ l k) (l.take k) (l.drop k)
def zzw(u:Tm)(l:List Bt):BlK u l 0:=⟨rfl,rfl⟩
def BlK.err{u:Tm}{l:List Bt}{k:Nat}{b:Bt}(h:BlK u l k)(V:l[k]? =some b)(he:¬addE (suK ⟨0,1⟩ l k) b.Dur=0):bkE u ⟨0,1⟩ l=addE (suK ⟨0,1⟩ l k) b.Dur:=by
 have Z:=j1.1 V;rw[h.e,jG Z.1,Z.2];show(if addE (suK ⟨0,1⟩ l k) b.Dur=0 then _ else _)=_;rw[j3 he]
def BlK.cut{u:Tm}{l:List Bt}{k:Nat}{b:Bt}(h:BlK u l k)(V:l[k]? =some b)(he:addE (suK ⟨0,1⟩ l k) b.Dur=0)(U:whB u (suK ⟨0,1⟩ l (k+1))=true):bkE u ⟨0,1⟩ l=bkE u ⟨0,1⟩ (l.drop (k+1))/\bkV u ⟨0,1⟩ [] l=l.take (k+1)::bkV u ⟨0,1⟩ [] (l.drop (k+1)):=by
 have Z:=j1.1 V;rw[zi6 V]at U;refine⟨?_,?_⟩
 ·rw[h.e,jG Z.1,Z.2];show(if addE (suK ⟨0,1⟩ l k) b.Dur=0 then bkE u (if whB u (addV (suK ⟨0,1⟩ l k) b.Dur)then⟨0,1⟩else _) _ else _)=_;rw[j4 he,j4 U]
 ·rw[h.v,jG Z.1,Z.2];show(if whB u (addV (suK ⟨0,1⟩ l k) b.Dur)then _ else _)=_;rw[j4 U,jA,V];rfl
def BlK.s{u:Tm}{l:List Bt}{k:Nat}{b:Bt}(h:BlK u l k)(V:l[k]? =some b)(he:addE (suK ⟨0,1⟩ l k) b.Dur=0)(T:¬whB u (suK ⟨0,1⟩ l (k+1))=true):BlK u l (k+1):=by
 have U:=j1.1 V;have Z:=T;rw[zi6 V]at Z;refine⟨?_,?_⟩
 ·rw[h.e,jG U.1,U.2,zi6 V];show(if addE (suK ⟨0,1⟩ l k) b.Dur=0 then bkE u (if whB u (addV (suK ⟨0,1⟩ l k) b.Dur)then _ else _) _ else _)=_;rw[j4 he,j3 Z]
 ·rw[h.v,jG U.1,U.2,zi6 V];show(if whB u (addV (suK ⟨0,1⟩ l k) b.Dur)then _ else _)=_;rw[j3 Z,jA,V];rfl
def BlK.fin{u:Tm}{l:List Bt}(h:BlK u l l.length)(hl:0<l.length):bkE u ⟨0,1⟩ l=0/\bkV u ⟨0,1⟩ [] l=[l]:=by
 have e1:=h.e;have e2:=h.v;rw[wO]at e1 e2;rw[j9]at e2;refine⟨e1,?_⟩;rw[e2];show(if l=[]then[]else[l])=[l];rw[j3 (λe=>by rw[e]at hl;simp at hl)]
structure BlO(u:Tm)(l l':List Bt)(O:List (List Bt)):Prop where
 e:bkE u ⟨0,1⟩ l=bkE u ⟨0,1⟩ l'
 v:bkV u ⟨0,1⟩ [] l=O++bkV u ⟨0,1⟩ [] l'
 n:O.length+l'.length<=l.length
def zzx(u:Tm)(l:List Bt):BlO u l l []:=⟨rfl,rfl,by simp⟩
def BlO.cut{u:Tm}{l l':List Bt}{O:List (List Bt)}{k:Nat}{b:Bt}(h:BlO u l l' O)(V:BlK u l' k)(Z:l'[k]? =some b)(he:addE (suK ⟨0,1⟩ l' k) b.Dur=0)(U:whB u (suK ⟨0,1⟩ l' (k+1))=true):BlO u l (l'.drop (k+1)) (O++[l'.take (k+1)]):=by
 obtain⟨T,N⟩:=V.cut Z he U;have J:=(j1.1 Z).1;have I:=h.n;refine⟨h.e.trans T,by rw[h.v,N];simp,?_⟩;simp only[jI,jY,u4,u6];omega
def BlO.last{u:Tm}{l l':List Bt}{O:List (List Bt)}(h:BlO u l l' O)(Z:BlK u l' l'.length)(hl:0<l'.length):BlO u l [] (O++[l']):=by
 obtain⟨V,U⟩:=Z.fin hl;have T:=h.n;refine⟨h.e.trans V,by rw[h.v,U];simp[bkV],?_⟩;simp only[jI,jY,u4];omega
def zCI{m:Mn}{l:List Bt}(c:¬wcE m l=0):blE m l=wcE m l/\blV m l=[]:=by
 have e:blE m l=wcE m l:=by unfold blE;rw[j3 c]
 exact⟨e,by unfold blV;rw[e,j3 c]⟩
def zCJ{m:Mn}{l l':List Bt}{O:List (List Bt)}{k:Nat}{b:Bt}(c:wcE m l=0)(h:BlO (meU m) l l' O)(Z:BlK (meU m) l' k)(V:l'[k]? =some b)(he:¬addE (suK ⟨0,1⟩ l' k) b.Dur=0):blE m l=addE (suK ⟨0,1⟩ l' k) b.Dur/\blV m l=[]:=by
 have e:blE m l=addE (suK ⟨0,1⟩ l' k) b.Dur:=by unfold blE;rw[j4 c,h.e,Z.err V he]
 exact⟨e,by unfold blV;rw[e,j3 he]⟩
def zCK{m:Mn}{l:List Bt}{O:List (List Bt)}(c:wcE m l=0)(h:BlO (meU m) l [] O):blE m l=0/\blV m l=O:=by
 have e:blE m l=0:=by unfold blE;rw[j4 c,h.e];rfl
 exact⟨e,by unfold blV;rw[j4 e,h.v];simp[bkV]⟩
def meQ(m:Mn)(_:Int):Bool:=decide (1<=meV m)&&decide (meV m<=4)
def zta:zgF meQ=true:=by kernel_rfl
end
end Go.Rse
