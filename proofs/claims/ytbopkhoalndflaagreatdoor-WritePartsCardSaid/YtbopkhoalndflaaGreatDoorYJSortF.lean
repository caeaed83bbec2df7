/-
  The library's sort o.
-/
import Derived.Shelf.SlSortCmp.NoneTotal
import Derived.Shelf.SlSortCmp.WholeK
import Derived.Ground.SlsfProg
import Derived.Test.YtbopkhoalndflaaGreatDoorYJWri0
set_option linter.all false
namespace Go.Rse
open Go Go.Proofs Go.Shelf Go.Sort Go.Proofs.Tryz
def zn4:AV->Bool
 |.int _ _=>true
 |.bool _=>true
 |.str _=>true
 |.nils=>true
 |.nilf=>true
 |.sl _ _=>true
 |_=>false
def RV.one{I:Im}{ρ:Nat->Value}{c:AV}{v:Value}(h:RV I ρ c v)(ho:zn4 c=true):v.oneCell'=true:=by
 cases h<;>first|rfl|(simp[zn4]at ho)
def zsP{W W':World}(h:Grow W W'):∃q os,W'=grow (W.drewN q) os:=by
 refine⟨W'.drawn-W.drawn,W'.heap.extract W.heap.size W'.heap.size,?_⟩;obtain⟨T,Q,N,H,G,J⟩:=h;obtain⟨I,tp,dr,os,ou⟩:=W;obtain⟨Z,tp',dr',os',ou'⟩:=W';simp only at T Q N H G J;subst T;subst Q;subst N;have e1:dr+(dr'-dr)=dr':=by omega
 have e2:I++Z.extract I.size Z.size=Z:=by
  apply Array.ext
  ·simp;omega
  ·intro i hi U;rw[Array.getElem_append];split
   ·rename_i V;have:=J i V;rw[jV U,jV V]at this;exact(Option.some.inj this).symm
   ·rename_i E;rw[Array.getElem_extract];congr 1;omega
 simp only[grow,World.drewN,e1,e2]
structure El{α:Type}(I:Im)(enc:α->List AV)(ok:α->Prop)(s:Nat)where
 x:α
 vs:List Value
 hx:ok x
 he:(enc x).length=s
 hl:vs.length=s
 ho:∀v∈vs,v.oneCell'=true
 hr:∀(j:Nat)(c:AV)(v:Value),(enc x)[j]? =some c->vs[j]? =some v->RV I noNames c v
def zo5{w:World}{b n:Nat}{os:Array Obj}{cur:Array Value}{e:TypeId}{fr:Nat×Nat}(F:Array Value)(Z:w.heap[b]? =some (.cells cur e fr)):
 (grow (putRow id (Sort.ahead w n) b 0 F) os).heap[b]? =some (.cells (putCells id 0 F cur) e fr):=by
 have V:b<w.heap.size:=(wJ.1 Z).1;rw[heap_grow_old _ _ (by simpa using V)];simp[putRow,mapBlock,Sort.ahead,uJ,Z,onCells]
def zkT{w:World}{b n:Nat}{os:Array Obj}(F:Array Value):w.grownBy (grow (putRow id (Sort.ahead w n) b 0 F) os) (some b):=by
 refine⟨rfl,rfl,rfl,by simp,λk V Z=>?_⟩;rw[heap_grow_old _ _ (by simpa using V)];have:b≠k:=λe=>Z (by rw[e])
 simp[putRow,mapBlock,Sort.ahead,uJ,this]
def ziD(cur F:Array Value)(h:F.size<=cur.size):(putCells id 0 F cur).toList.take F.size=F.toList:=by
 apply uR;intro j;by_cases Z:j<F.size
 ·rw[wL Z,uX];simp[putCells,Z,show j<cur.size by omega]
 ·rw[List.getElem?_take_eq_none (by omega),wR (by simp;omega)]
def zqB{α:Type}{enc:α->List AV}{s:Nat}{d:Nat}{ρ ρ':Nat->Value}{I:Im}{O:Owns}{w w':World}{E:TypeId}{l l':List α}{b:Nat}{xs':List Value}(Z:Sat (C0 0 d ⟨ρ,I,O⟩ w) [(2000000,.row enc l E s)] ⟨ρ,I,O⟩ w)(hρ:∀n,n≠2000000->ρ' n=ρ n)(H:yY (ρ 2000000)=some b)(Q:yY (ρ' 2000000)=some b)
 (hm:w.grownBy w' (some b))(N:w.drawn<=w'.drawn)(G:w'.ownsRow 0 E s (ρ' 2000000) l'.length xs')(he:∀(i:Nat)x,l'[i]? =some x->(enc x).length=s)
 (hv:∀(i:Nat)x(j:Nat)c v,l'[i]? =some x->(enc x)[j]? =some c->xs'[i*s+j]? =some v->RV I noNames c v):
 Sat (C0 0 d ⟨ρ,I,O⟩ w) [(2000000,.row enc l' E s)] ⟨ρ',I,O⟩ w'/\Ext (C0 0 d ⟨ρ,I,O⟩ w) ⟨ρ',I,O⟩ w':=by
 have V:Rel (C0 0 d ⟨ρ,I,O⟩ w) ⟨[],[(2000000,.row enc l E s)]⟩ ⟨ρ,I,O⟩ {tmps:= #[],defers:=[]} w:=⟨rfl,Dfs.nil _ _ _,λt x h=>by simp[lk]at h,Z,⟨bE _,rfl,rfl,rfl,jD _,jD _,λ_ _ _ _=>⟨rfl,rfl⟩,λb y n _ hy=>⟨n,hy⟩⟩⟩;obtain⟨xs,xT,h1,h2,h3⟩:=Z.blk 2000000 _ rfl;have J:=h3 b H
 have hr:=V.modifyR (g':=⟨ρ',I,O⟩) (k:=2000000) (bo:=some b) (B:=.row enc l' E s) (d:=none) (x:=.any) (v:=.nilIface) rfl hρ (λ_ _=>rfl) (λb' e=>by injection e with e;subst e;exact J) hm N (Z.ob.up (bE _) hm.size) rfl (.any _)
  ⟨xs',G,he,hv,λb' U=>by
   have:b'=b:=by rw[Q]at U;simpa using U.symm
   subst this;exact J⟩
 refine⟨⟨hr.sat.im,hr.sat.ob,λk B T=>hr.sat.blk k B ?_⟩,hr.ext⟩;simp only[yq]at T⊢;cases hk:Nat.beq 2000000 k<;>simp[hk]at T⊢
 ·simp[lk]at T
 ·exact T
def ziE{α:Type}{I:Im}{enc:α->List AV}{ok:α->Prop}{s:Nat}[Inhabited (El I enc ok s)]{d:Array (El I enc ok s)}{i j:Nat}{e:El I enc ok s}(hi:d[i]? =some e)(T:j<s):(flatK El.vs s d)[i*s+j]? =e.vs[j]? :=by
 have Z:=(wJ.1 hi).1
 have U:i*s+j<d.size*s:=by
  have:=jT s (show i+1<=d.size from Z);rw[Nat.add_mul,Nat.one_mul]at this;omega
 have e1:(i*s+j)/s=i:=(blk_iff s i _ (by omega)).1 ⟨by omega,by omega⟩;have e2:(i*s+j)%s=j:=by rw[Nat.mod_eq_sub_div_mul,e1];omega
 have h:=get_flatK El.vs s d (i*s+j) U;rw[e1,e2]at h;have Q:d[i]! =e:=by rw[getElem!_pos d i Z];exact(wJ.1 hi).2
 rw[Q]at h;have V:j<e.vs.length:=by rw[e.hl];exact T
 rw[getElem!_pos (flatK El.vs s d) (i*s+j) (by simpa using U),getElem!_pos e.vs j V]at h;rw[jV (by simpa using U),jA V,h]
abbrev leOf{α:Type}(cf:α->α->Int):α->α->Bool:=λx y=>!ltOf cf y x
def zm1{α β:Type}[Inhabited β](f:β->α)(ok:α->Prop)(cf:α->α->Int)(hT:∀x y,ok x->ok y->ltOf cf x y=false->ltOf cf y x=false->x=y)
 (V:∀x y z,ok x->ok y->ok z->leOf cf x y=true->leOf cf y z=true->leOf cf x z=true)(U:∀x y,ok x->ok y->(leOf cf x y||leOf cf y x)=true)(hf:∀e,ok (f e))
 {d d':Array β}(hp:PermIn 0 d.size d d')(hs:SortedIn (ltOf λx y=>cf (f x) (f y)) 0 d.size d'):d'.toList.map f=(d.toList.map f).mergeSort (leOf cf):=by
 obtain⟨T,_,Z⟩:=hp;have e1:d'.extract 0 d.size=d':=by rw[←T];exact Array.extract_size
 rw[e1,Array.extract_size]at Z;have hok:∀a∈d.toList.map f,ok a:=λa ha=>by obtain⟨e,_,rfl⟩:=jW.1 ha;exact hf e
 let l0:List {a//ok a}:=d.toList.map λe=>⟨f e,hf e⟩
 have Q:l0.map Subtype.val=d.toList.map f:=by simp[l0]
 let r0:{a//ok a}->{a//ok a}->Bool:=λx y=>leOf cf x.1 y.1
 have hm:(l0.mergeSort r0).map Subtype.val=(d.toList.map f).mergeSort (leOf cf):=by
  rw[←Q];exact List.map_mergeSort (λa _ b _=>rfl)
 rw[←hm];let l1:List {a//ok a}:=d'.toList.map λe=>⟨f e,hf e⟩
 have N:l1.map Subtype.val=d'.toList.map f:=by simp[l1]
 rw[←N];congr 1;refine List.Perm.eq_of_pairwise (le:=λx y=>r0 x y=true) ?_ ?_ ?_ ((Z.map _).trans (List.mergeSort_perm _ _).symm)
 ·intro a b _ _ G E;simp only[r0,leOf,wF]at G E;exact Subtype.ext (hT a.1 b.1 a.2 b.2 E G)
 ·rw[uZ];intro i j hi hj J;have I:i<d'.size:=by simpa[l1]using hi
  have H:j<d'.size:=by simpa[l1]using hj
  have h:=hs i j (w7 _) J (by omega);rw[getElem!_pos d' i I,getElem!_pos d' j H]at h;simp only[l1,List.getElem_map,Array.getElem_toList,r0,leOf,wF];exact h
 ·exact List.pairwise_mergeSort (λa b c=>V a.1 b.1 c.1 a.2 b.2 c.2) (λa b=>U a.1 b.1 a.2 b.2) _
def zl8{I:Im}{ρ:Nat->Value}{k f:Nat}{args:List Value}(h:RVL I ρ [.own k,.fn f []] args):args=[ρ k,.func (.func f) #[] #[]]:=by
 obtain⟨hl,hv⟩:=h
 match args,hl with
 |[u,v],_=>
  rw[zZ (hv 0 _ u rfl rfl)];have V:=hv 1 _ v rfl rfl;cases V with
  |fn f caps vs Z U=>
   have:vs=[]:=jN Z;subst this;rfl
def zsQ{P:Program}{τ:Ren}(L:SlLaysF0.n6 P τ)(x0:zak P (τ.f 6)=true){α:Type}(enc:α->List AV)(s:Nat)(u3:0<s)(E:TypeId)(l:List α)(x3:l.length<=4000000000)(ok:α->Prop)(cf:α->α->Int)(g:FuncId)
 (aE:∀w,(isAgg (τ.t 24)).run P w=.ok true w)(zE:∀w,(Go.sizeOf (τ.t 24)).run P w=.ok s w)(he:∀x,(enc x).length=s)(h1:∀x c,c∈enc x->zn4 c=true)
 (u2:∀x y,ok x->ok y->Fn P g [.agg (enc x),.agg (enc y)] (.int .i64 (cf x y)))(hok:∀x∈l,ok x)(hO:∀x,ok x->cf x x=0)(hP:∀x y z,ok x->ok y->ok z->cf x y<0->cf y z<0->cf x z<0)(u1:∀x y z,ok x->ok y->ok z->0<=cf x y->0<=cf y z->0<=cf x z)
 (hT:∀x y,ok x->ok y->0<=cf x y->0<=cf y x->x=y)(hM:∀x y,ok x->ok y->0<=cf x y\/0<=cf y x):
 FnO P (τ.f 6) [.own 2000000,.fn g []] [(2000000,.row enc l E s)] [2000000] (.tup []) [(2000000,.row enc (l.mergeSort (leOf cf)) E s)]:=by
 refine⟨x0,λd ρ I O w args Z w2=>?_⟩;rw[zl8 w2];obtain⟨xs,hw,q1,q2,q3⟩:=Z.blk 2000000 _ rfl
 have U:l=[]->∀p c,ρ 2000000=.slice p 0 c->Calls P (τ.f 6) [ρ 2000000,.func (.func g) #[] #[]].toArray w λe w'=>∃v ρ' I' O',e=.returned v/\Sat (C0 0 d ⟨ρ,I,O⟩ w) [(2000000,.row enc (l.mergeSort (leOf cf)) E s)] ⟨ρ',I',O'⟩ w'/\RV I' ρ' (.tup []) v/\Ext (C0 0 d ⟨ρ,I,O⟩ w) ⟨ρ',I',O'⟩ w'/\∀n∈[2000000],ρ' n=ρ n:=by
  intro hl p c hv;subst hl;have e0:([]:List α).mergeSort (leOf cf)=[]:=by simp
  rw[hv,e0];refine Calls.mono (AnyF.slices_SortFunc_none L p c _ w) ?_
  rintro e w'⟨rfl,rfl⟩
  exact⟨_,ρ,I,O,rfl,Z,.tup [] [] rfl (λj c v h=>by simp at h),⟨bE _,rfl,rfl,rfl,jD _,jD _,λ_ _ _ _=>⟨rfl,rfl⟩,λb y n _ hy=>⟨n,hy⟩⟩,λ_ _=>rfl⟩
 rcases hw.2 with⟨hv,h0⟩|⟨b,cap,cur,hv,hK,hh,v9,hG,T,hC⟩
 ·exact U (jN h0) _ _ hv
 ·have hv:ρ 2000000=.slice (some ⟨b,0,none⟩) l.length cap:=hv;by_cases hl:l=[]
  ·exact U hl _ _ (by rw[hv,hl];rfl)
  --the elements
  have hxl:xs.length=l.length*s:=hw.1
  have h9:∀i,i<l.length->i*s+s<=l.length*s:=λi hi=>by
   have:=jT s (show i+1<=l.length from hi);rw[Nat.add_mul,Nat.one_mul]at this;exact this
  have v8:∀(i:Nat)(hi:i<l.length),∃e:El I enc ok s,e.x=l[i]/\e.vs=(xs.drop (i*s)).take s:=by
   intro i hi;have v5:l[i]? =some l[i]:=jA hi
   have x3:((xs.drop (i*s)).take s).length=s:=by
    have:=h9 i hi;rw[jM,wM];omega
   have k5:∀j,j<s->((xs.drop (i*s)).take s)[j]? =xs[i*s+j]? :=λj V=>by
    rw[wL V,w9]
   have H:∀(j:Nat)(c:AV)(v:Value),(enc l[i])[j]? =some c->((xs.drop (i*s)).take s)[j]? =some v->RV I noNames c v:=λj c v hc Q=>by
    have V:j<s:=by rw[←he l[i]];exact(j1.1 hc).1
    rw[k5 j V]at Q;exact q2 i _ j c v v5 hc Q
   refine⟨⟨l[i],(xs.drop (i*s)).take s,hok _ (uM hi),he _,x3,λv hv=>?_,H⟩,rfl,rfl⟩;obtain⟨j,V,e⟩:=List.mem_iff_getElem.1 hv;have k4:j<(enc l[i]).length:=by rw[he];omega
   exact RV.one (H j _ v (jA k4) (by rw[jA V,e])) (h1 _ _ (uM k4))
  let dl:List (El I enc ok s):=List.ofFn λi:Fin l.length=>(v8 i.1 i.2).choose
  have k3:∀(i:Nat)(hi:i<l.length),∃e,dl[i]? =some e/\e.x=l[i]/\e.vs=(xs.drop (i*s)).take s:=λi hi=>by
   refine⟨_,by simp[dl,hi],(v8 i hi).choose_spec⟩
  have j2:dl.length=l.length:=by simp[dl]
  have h8:dl.map El.x=l:=by
   apply List.ext_getElem (by simp[j2]);intro i hi v5;obtain⟨e,J,G,_⟩:=k3 i v5;rw[List.getElem_map];have:dl[i]'(by simpa using hi)=e:=(j1.1 J).2;rw[this,G]
  have x2:0<l.length:=Nat.pos_of_ne_zero (λh=>hl (jN h))
  haveI:Inhabited (El I enc ok s):=⟨(v8 0 x2).choose⟩
  have hda:∀(i:Nat)(hi:i<l.length),∃e,dl.toArray[i]? =some e/\e.x=l[i]/\e.vs=(xs.drop (i*s)).take s:=λi hi=>by
   obtain⟨e,J,G⟩:=k3 i hi;exact⟨e,by simpa using J,G⟩
  have xT:dl.toArray.size=l.length:=by simpa using j2
  have v4:ImO I O w:=⟨Z.im,Z.ob⟩;have j0:b<w.heap.size:=zd hh;have hO':O b=some (d,2000000):=(q3 b (by show yY (ρ 2000000)=some b;rw[hv];rfl)).1
  have hH:HoldsK El.vs s w b 0 dl.toArray:=by
   intro t ht;have v3:t<l.length*s:=by simpa[xT]using ht
   have hq:t/s<l.length:=(Nat.div_lt_iff_lt_mul u3).2 v3;obtain⟨e,J,G,h4⟩:=hda (t/s) hq;have hm:t%s<s:=x7 _ u3;have et:t/s*s+t%s=t:=by rw[wV];exact v6 t s
   have hg:=ziE J hm;rw[et]at hg;have hx:e.vs[t%s]? =xs[t]? :=by rw[h4,wL hm,w9,et]
   have hxt:xs[t]? =cur[t]? :=by
    rw[←hC,wL (by simpa using v3),uX]
   have hZ:t<cur.size:=by
    rw[T];exact jS v3 (jT s v9)
   refine⟨?_,by simp[World.frozen?,hh]⟩
   have hfl:(flatK El.vs s dl.toArray)[t]! =cur[t]:=by
    rw[hx,hxt,jV hZ]at hg;have h5:=(wJ.1 hg);rw[getElem!_pos _ t h5.1];exact h5.2
   rw[hfl];simp[World.cell?,hh,hZ]
  have hY:CmpLays P g #[] El.vs s (λx y:El I enc ok s=>cf x.x y.x) b 0 dl.toArray.size w:=by
   intro m os dk hdk x y
   have hgr:∀a:Addr,a.block<w.heap.size->a.block≠b->(sortWorldK El.vs s w b 0 m dk os).cell? a=w.cell? a:=λa ha hne=>by
    unfold sortWorldK;rw[cell?_grow _ _ _ (by simpa[putRowK,putRow,mapBlock,Sort.ahead]using ha),cell?_putRowK_other _ _ _ _ _ _ _ hne];rfl
   have hio:ImOB ⟨ρ,I,O⟩ (sortWorldK El.vs s w b 0 m dk os):=by
    refine⟨λb' o u hI=>?_,λb' k hk=>?_,v4.2.2⟩
    ·obtain⟨p1,p2⟩:=v4.1 b' o u hI;refine⟨?_,p2⟩
     rw[hgr ⟨b',o,none⟩ (zct p1) (λe=>by
      have e:b'=b:=e;rw[e,hO']at p2;simp at p2)]
     exact p1
    ·have:=v4.2.1 b' k hk;simp only[sortWorldK,putRowK,putRow,mapBlock,Sort.ahead,size_grow,Array.size_modify];omega
   have hc:=(u2 x.x y.x x.hx y.hx).2.2 ⟨ρ,I,O⟩ (sortWorldK El.vs s w b 0 m dk os) [.agg x.vs.toArray,.agg y.vs.toArray] hio ⟨rfl,λj c v V x4=>by
    match j with
    |0=>simp at V x4;subst V;subst x4;exact .agg _ _ (by rw[x.hl,x.he]) x.hr
    |1=>simp at V x4;subst V;subst x4;exact .agg _ _ (by rw[y.hl,y.he]) y.hr
    |j+2=>simp at V⟩
   rw[Array.append_empty];refine Calls.mono hc ?_
   rintro e w'⟨v,g',rfl,H,hX,_⟩
   have hvi:v=.int .i64 (cf x.x y.x):=by cases H;rfl
   subst hvi;exact⟨rfl,zsP hX.grow⟩
  have N:∀x y,ltOf (λx y:El I enc ok s=>cf x.x y.x) x y=decide (cf x.x y.x<0):=λ_ _=>rfl
  have hW:SWO (ltOf λx y:El I enc ok s=>cf x.x y.x):=by
   refine⟨λx=>?_,λx y z=>?_,λx y z=>?_⟩
   ·rw[N,hO _ x.hx];rfl
   ·simp only[N,w5];exact hP _ _ _ x.hx y.hx z.hx
   ·simp only[N,jR,Int.not_lt];exact u1 _ _ _ x.hx y.hx z.hx
  have eg:∀args w,(callFunc g args).run P w=.ok (.enter g args) w:=by
   have hx:ok l[0]:=hok _ (uM x2);exactλargs w=>zS (u2 _ _ hx hx).1 args w
  have hS:=AnyQ.slices_SortFunc L s aE zE El.vs (λe=>e.hl) (λe=>e.ho) (λx y:El I enc ok s=>cf x.x y.x) hW g #[] b 0 cap dl.toArray w eg hY hH j0 (by rw[xT];omega);rw[hv];refine Calls.mono (by rw[←xT];exact hS) ?_
  rintro e w'⟨rfl,d',n,os,hp,hso,rfl⟩
  have x1:=zm1 El.x ok cf (λx y hx hy J G=>hT x y hx hy (by simpa[ltOf]using J) (by simpa[ltOf]using G))
   (λx y z hx hy hz J G=>by
    simp only[leOf,ltOf,wF,jR,Int.not_lt]at J G⊢;exact u1 _ _ _ hz hy hx G J)
   (λx y hx hy=>by
    simp only[leOf,ltOf,wB,wF,jR,Int.not_lt];exact(hM x y hx hy).symm) (λe=>e.hx) hp hso
  rw[List.toList_toArray,h8]at x1;have hU:d'.size=l.length:=hp.1.trans xT;have v1:(flatK El.vs s d').size=l.length*s:=by simp[hU]
  have v0:(flatK El.vs s d').size<=cur.size:=by rw[v1,T];exact jT s v9
  have hQ:(sortWorldK El.vs s w b 0 n d' os).ownsRow 0 E s (ρ 2000000) (l.mergeSort (leOf cf)).length (flatK El.vs s d').toList:=by
   rw[List.length_mergeSort];refine⟨by simpa using v1,.inr ⟨b,cap,putCells id 0 (flatK El.vs s d') cur,hv,hK,zo5 _ hh,v9,hG,by simp[putCells,T],?_⟩⟩;rw[←v1];exact ziD cur _ v0
  obtain⟨s1,s2⟩:=zqB (ρ':=ρ) (l':=l.mergeSort (leOf cf)) Z (λ_ _=>rfl) (by rw[hv];rfl) (by rw[hv];rfl) (zkT (n:=n) (os:=os) (flatK El.vs s d')) (by show w.drawn<=w.drawn+n;omega) hQ (λ_ x _=>he x) (λi x j c v hi hc Q=>by
   rw[←x1,jO]at hi;cases u4:d'.toList[i]? with
   |none=>rw[u4]at hi;simp at hi
   |some e=>
    rw[u4]at hi;have hxe:e.x=x:=by simpa using hi
    have V:j<s:=by rw[←he x];exact(j1.1 hc).1
    have hg:=ziE (d:=d') (i:=i) (j:=j) (e:=e) (by rw[←uX];exact u4) V;rw[uX,hg]at Q;exact e.hr j c v (by rw[hxe];exact hc) Q)
  exact⟨_,ρ,I,O,rfl,s1,.tup [] [] rfl (λj c v h=>by simp at h),s2,λ_ _=>rfl⟩
end Go.Rse
namespace Go.Proofs
open Go.Shelf Go.Proofs.Tryz
def zgF:Go.Shelf.Ren:=⟨λ|6=>122|15=>170|14=>169|28=>226|29=>227|20=>218|21=>219|22=>220|23=>221|24=>222|25=>223|26=>224|27=>225|46=>268|47=>269|48=>270|49=>271|50=>272|57=>307|n=>n,λ|22=>159|24=>158|25=>161|3=>3|39=>221|0=>0|53=>264|55=>266|4=>4|46=>257|45=>256|50=>261|5=>5|9=>9|66=>300|70=>304|76=>344|77=>191|n=>n,λ|n=>n⟩
def zjw:Go.Proofs.SlLaysF0.n6 prog zgF:={
 mixed:=by kernel_rfl
 f6:=⟨f122.name,by decide,func122.trans (congrArg some (by kernel_rfl))⟩
 f14:=⟨f169.name,by decide,func169.trans (congrArg some (by kernel_rfl))⟩
 f15:=func170.trans (congrArg some (by kernel_rfl))
 f20:=⟨f218.name,by decide,func218.trans (congrArg some (by kernel_rfl))⟩
 f21:=⟨f219.name,by decide,func219.trans (congrArg some (by kernel_rfl))⟩
 f22:=⟨f220.name,by decide,func220.trans (congrArg some (by kernel_rfl))⟩
 f23:=⟨f221.name,by decide,func221.trans (congrArg some (by kernel_rfl))⟩
 f24:=⟨f222.name,by decide,func222.trans (congrArg some (by kernel_rfl))⟩
 f25:=⟨f223.name,by decide,func223.trans (congrArg some (by kernel_rfl))⟩
 f26:=⟨f224.name,by decide,func224.trans (congrArg some (by kernel_rfl))⟩
 f27:=⟨f225.name,by decide,func225.trans (congrArg some (by kernel_rfl))⟩
 f28:=func226.trans (congrArg some (by kernel_rfl))
 f29:=func227.trans (congrArg some (by kernel_rfl))
 f46:=⟨f268.name,by decide,func268.trans (congrArg some (by kernel_rfl))⟩
 f47:=func269.trans (congrArg some (by kernel_rfl))
 f48:=func270.trans (congrArg some (by kernel_rfl))
 f49:=⟨f271.name,by decide,func271.trans (congrArg some (by kernel_rfl))⟩
 f50:=⟨f272.name,by decide,func272.trans (congrArg some (by kernel_rfl))⟩
 f57:=⟨f307.name,by decide,func307.trans (congrArg some (by kernel_rfl))⟩
 t0:=Tryz.underlying0
 a0:=Tryz.isAgg0
 z0:=Tryz.sizeOf0
 v0:=Tryz.zeroValue0
 t3:=Tryz.underlying3
 a3:=Tryz.isAgg3
 z3:=Tryz.sizeOf3
 v3:=Tryz.zeroValue3
 t4:=Tryz.underlying4
 a4:=Tryz.isAgg4
 z4:=Tryz.sizeOf4
 v4:=Tryz.zeroValue4
 t5:=Tryz.underlying5
 a5:=Tryz.isAgg5
 z5:=Tryz.sizeOf5
 v5:=Tryz.zeroValue5
 t9:=Tryz.underlying9
 a9:=Tryz.isAgg9
 z9:=Tryz.sizeOf9
 v9:=Tryz.zeroValue9
 t22:=Tryz.underlying159
 a22:=Tryz.isAgg159
 z22:=Tryz.sizeOf159
 v22:=Tryz.zeroValue159
 t25:=Tryz.underlying161
 a25:=Tryz.isAgg161
 z25:=Tryz.sizeOf161
 v25:=Tryz.zeroValue161
 t39:=Tryz.underlying221
 a39:=Tryz.isAgg221
 z39:=Tryz.sizeOf221
 v39:=Tryz.zeroValue221
 t45:=Tryz.underlying256
 a45:=Tryz.isAgg256
 z45:=Tryz.sizeOf256
 v45:=Tryz.zeroValue256
 t46:=Tryz.underlying257
 a46:=Tryz.isAgg257
 z46:=Tryz.sizeOf257
 v46:=Tryz.zeroValue257
 t50:=Tryz.underlying261
 a50:=Tryz.isAgg261
 z50:=Tryz.sizeOf261
 v50:=Tryz.zeroValue261
 t53:=Tryz.underlying264
 a53:=Tryz.isAgg264
 z53:=Tryz.sizeOf264
 v53:=Tryz.zeroValue264
 t55:=Tryz.underlying266
 a55:=Tryz.isAgg266
 z55:=Tryz.sizeOf266
 v55:=Tryz.zeroValue266
 t66:=Tryz.underlying300
 a66:=Tryz.isAgg300
 z66:=Tryz.sizeOf300
 v66:=Tryz.zeroValue300
 t70:=Tryz.underlying304
 a70:=Tryz.isAgg304
 z70:=Tryz.sizeOf304
 v70:=Tryz.zeroValue304
 t76:=Tryz.underlying344
 a76:=Tryz.isAgg344
 z76:=Tryz.sizeOf344
 v76:=Tryz.zeroValue344
 t77:=Tryz.underlying191
 a77:=Tryz.isAgg191
 z77:=Tryz.sizeOf191
 v77:=Tryz.zeroValue191}
end Go.Proofs
namespace Go.Rse
open Go Go.Proofs Go.Sort Go.RowKit Go.Proofs.Tryz
def chkB{P:Program}{w:World}{kt:TypeId}{b:Bool}(Z:P.underlying kt=some .bool)(e:Bool)(n:Nat):(Instr.checkKey e (n+1) kt (.bool b)).run P w=.ok () w:=by
 simp_all[Instr.checkKey,run_underlying]
def chk3{P:Program}{K:TypeId}(h:∃f1 f2 f3:Field,P.underlying K=some (.struct #[f1,f2,f3])/\(f1.name≠ "_" /\f2.name≠ "_" /\f3.name≠ "_")/\(P.plainKey f1.type=true/\P.plainKey f2.type=true/\P.plainKey f3.type=true)/\(f1.offset=0/\f2.offset=1/\f3.offset=2)/\P.underlying f1.type=some (.int .i64)/\P.underlying f2.type=some .bool/\P.underlying f3.type=some .bool)(em:Bool)(w:World)(a:Int)(b c:Bool):
 (Instr.checkKey em 10000 K (.agg #[.int .i64 a,.bool b,.bool c])).run P w=.ok () w:=by
 obtain⟨f1,f2,f3,Z,⟨V,U,T⟩,⟨p1,p2,p3⟩,⟨o1,o2,o3⟩,u1,u2,u3⟩:=h;show(Instr.checkKey em (9998+1+1) K _).run P w=_;have k1:(Instr.checkKey em (9998+1) f1.type (.int .i64 a)).run P w=.ok () w:=MapKept.run_checkKey u1 (show MapKept.IsKey (.int .i64) (.int .i64 a)from rfl) em 9998;have k2:(Instr.checkKey em (9998+1) f2.type (.bool b)).run P w=.ok () w:=chkB u2 em 9998;have k3:(Instr.checkKey em (9998+1) f3.type (.bool c)).run P w=.ok () w:=chkB u3 em 9998;have q1:(part f1.type #[.int .i64 a,.bool b,.bool c] f1.offset).run P w=.ok (.int .i64 a) w:=run_part_plain w p1 (by rw[o1];rfl);have q2:(part f2.type #[.int .i64 a,.bool b,.bool c] f2.offset).run P w=.ok (.bool b) w:=run_part_plain w p2 (by rw[o2];rfl);have q3:(part f3.type #[.int .i64 a,.bool b,.bool c] f3.offset).run P w=.ok (.bool c) w:=run_part_plain w p3 (by rw[o3];rfl);rw[Instr.checkKey];simp_all[run_underlying]
def zqC(f:Fo):Value:=.agg #[.int .i64 f.v,.bool f.c,.bool f.d]
def ziF(I:Im)(ρ:Nat->Value)(x:Fo):RVL I ρ (foE x) [.int .i64 x.v,.bool x.c,.bool x.d]:=⟨rfl,λj c v Z hv=>by
 rcases j with _|_|_|j
 ·simp[foE]at Z hv;subst Z;subst hv;exact .int _ _
 ·simp[foE]at Z hv;subst Z;subst hv;exact .bool _
 ·simp[foE]at Z hv;subst Z;subst hv;exact .bool _
 ·simp[foE]at Z⟩
def zm2:KeyL prog 158 (λf:Fo=>foA f) zqC where
 val:=λI ρ x v h=>by
  obtain⟨vs,rfl,hl,hv⟩:=zbG h
  match vs,hl with
  |[a,b,c],_=>
   have Z:=y7 (hv 0 _ a rfl rfl);have V:=zr (hv 1 _ b rfl rfl);have U:=zr (hv 2 _ c rfl rfl)
   grind[zqC]
 of:=λI ρ x=>.agg _ [.int .i64 x.v,.bool x.c,.bool x.d] rfl (ziF I ρ x).2
 chk:=λem w x=>chk3 ⟨_,_,_,Tryz.underlying158,by decide,⟨by kernel_rfl,by kernel_rfl,by kernel_rfl⟩,by decide,by kernel_rfl,by kernel_rfl,by kernel_rfl⟩ em w x.v x.c x.d
 wide:=by kernel_rfl
 eq:=λw x y=>zcg (P:=prog) (t:=158) (d:=2) (w:=w) (I:=λ_ _=>none) (ρ:=noNames) (xs:=foE x) (ys:=foE y) (vs:=[.int .i64 x.v,.bool x.c,.bool x.d]) (us:=[.int .i64 y.v,.bool y.c,.bool y.d]) (by kernel_rfl) (by decide)
  (ziF _ _ x) (ziF _ _ y) (by kernel_rfl) (by kernel_rfl) (by kernel_rfl) (b:=decide (x=y)) (zs2 x y)
 stay:=λw x=>by simp[Instr.keyThatStays,Instr.sameBits,zqC]
def msF(l:List Fo):List Fo:=l.mergeSort (leOf foC)
def zm3(l:List Fo)(hl:l.length<=4000000000):
 FnO prog 122 [.own 2000000,.fn 123 []] [(2000000,.row foE l 158 3)] [2000000] (.tup []) [(2000000,.row foE (msF l) 158 3)]:=
 zsQ zjw (by kernel_rfl) foE 3 (by decide) _ l hl (λ_=>True) foC _ Tryz.isAgg158 Tryz.sizeOf158 (λ_=>rfl)
  (λt c T=>by grind[foE,zn4]) (λx y _ _=>zf4 x y) (λ_ _=>trivial)
  (λx _=>(zaN x x).2.2 rfl)
  (λx y z _ _ _ V U=>by simp_all[zaN];omega)
  (λx y z _ _ _ V U=>by
   have a:=zaN x y;have b:=zaN y z;grind[zaN])
  (λx y _ _ V U=>zod (by
   have a1:¬foN x<foN y:=λZ=>by have:=(zaN x y).1.2 Z;omega
   have b1:¬foN y<foN x:=λZ=>by have:=(zaN y x).1.2 Z;omega
   omega))
  (λx y _ _=>by
   grind[zaN])
def zsR{m:Mn}{b:Bt}{h:Hb}{l:List Fo}(Z:l.Nodup)(hm:∀f,f∈l↔f∈fkL b h (allE m b.Dur)):msF l=frL m b h:=by
 refine zo8 ?_ λf=>by unfold msF;rw[List.mem_mergeSort,hm]
 have V:(msF l).Pairwise (λx y=>leOf foC x y=true):=by
  refine List.pairwise_mergeSort (λa b c T Q=>?_) (λa b=>?_) l
  ·simp only[leOf,ltOf,wF,jR]at*
   have x1:=zaN a b;have x2:=zaN b c;have x3:=zaN a c;have y1:=zaN b a;have y2:=zaN c b;have y3:=zaN c a;omega
  ·have x1:=zaN a b;have x2:=zaN b a;simp only[leOf,ltOf,wB,wF,jR];omega
 have hnm:(msF l).Nodup:=(List.mergeSort_perm _ _).nodup_iff.2 Z;refine List.Pairwise.imp_of_mem (λ{x y}_ _ U=>?_) (V.and hnm)
 grind[zaN,zod,ltOf,foL]
def zyR{b:Bt}{h:Hb}{L:List Sp}{k:Nat}{s:Sp}(hs:L[k]? =some s):fkL b h (L.take (k+1))=fkL b h (L.take k)++fkS b h s:=by
 unfold fkL;rw[jF,hs];simp
def zwp{b:Bt}{h:Hb}{s:Sp}(Z:¬s.Rest=b.Rest\/usQ s h=false):fkS b h s=[]:=by
 grind[fkS,slQ]
def zsS{b:Bt}{h:Hb}{s:Sp}(Z:s.Rest=b.Rest)(V:usQ s h=true):fkS b h s=(if s.Dot then[]else[⟨s.Value,s.Color,false⟩])++(if h.Dots then[⟨s.Value,s.Color,true⟩]else[]):=by
 simp_all[fkS,slQ]
def zn5{b:Bt}{h:Hb}:∀L:List Sp,(fkL b h L).length<=2*L.length
 |[]=>by simp[fkL]
 |s::r=>by
  have ih:=zn5 (b:=b) (h:=h) r
  grind[fkS,fkL]
def zn6(m:Mn)(t:Tm):(allE m t).length<=72:=by
 grind[allE,zhT]
def zm4{v:Int}{c d:Bool}:(AV.agg [iv v,.bool c,.bool d])=(λf:Fo=>foA f) ⟨v,c,d⟩:=rfl
def zyS{r:Bool}{L:List Fo}{k:Nat}{f:Fo}(h:L[k]? =some f):(L.take k).map (foS r)++[foS r f]=(L.take (k+1)).map (foS r):=by
 rw[jF,h];simp
attribute [local irreducible] Pur yA yC Ex X Fn Imp LeV LeB FnO It yH FnW FnOW FnP FnD
attribute [local irreducible] wcE btF ckT ckM allE bthE usQ fkL kyK ouK msF frL frV foS
set_option maxHeartbeats 8000000 in
def zdo(m:Mn)(b:Bt)(h:Hb):Fn prog 73 [mnA m,btA b,hbA h] (zca (frV m b h)):=by
 have x0:=zn6 m b.Dur;have w2:[]=kyK (fkL b h ((allE m b.Dur).take 0)):=by unfold kyK fkL;rfl
 have v9:=zn5 (b:=b) (h:=h) (allE m b.Dur);have v8:=zs6 (fkL b h (allE m b.Dur));have v5:=zog m b h;refine kF func73 ntmps73 (λg w d=>?_);refine gc (zlD m b.Dur) ?_;refine kT (zhl (k:=24) (λf:Fo=>foA f) AV.bool) rfl rfl ?_;refine yh ?_;apply yf;apply ye;refine yE ?_;apply kB;refine zu (λk=>[(4,.ptr 4 0 0 0),(5,.ptr 5 0 0 0),(9,.mp 24),(25,spsA (allE m b.Dur)),(26,iv ((allE m b.Dur).length:Int)),(27,iv (k:Int))]) (λk=>[(4,.box (btE b) 100),(5,.box (hbE h) 32),(24,.mpb (λf:Fo=>foA f) AV.bool (kyK (fkL b h ((allE m b.Dur).take k))))]) ((allE m b.Dur).length) (λk N=>?_);refine gd ?_ ?_<;>intro v4
 ·obtain⟨s,hs⟩:∃s,(allE m b.Dur)[k]? =some s:=⟨_,lgg (by omega)⟩;have v3:(allE m b.Dur)[(k:Int).toNat]? =some s:=by simpa using hs
  have J:=zyR (b:=b) (h:=h) hs;apply yk;apply yf;apply kB;apply ye;iterate 2 refine ya ?_
  refine zk ?_;refine kK ?_;apply kQ;apply yf;apply ye;iterate 5 refine ya ?_
  refine kI 5 ?_;refine gq ?_;refine bA (zk6 s h) ?_;refine kG ?_;refine gf ?_ ?_<;>intro U
  ·have Z:kyK (fkL b h ((allE m b.Dur).take k))=kyK (fkL b h ((allE m b.Dur).take (k+1))):=by simp_all[zwp]
   refine gq ?_;refine yz (k+1) (hI:=yi)
  have hy:=zsS (b:=b) (h:=h) (s:=s) (by simpa using U.1) (by simpa using U.2);rw[hy]at J;refine gd ?_ ?_<;>intro v1
  ·refine gq ?_;refine zaf (zd4 (q:=(⟨s.Value,s.Color,false⟩:Fo)) (venc:=AV.bool) true zm2 rfl rfl rfl zm4 rfl rfl Tryz.underlying153 (λ_ _=>rfl)) ?_;refine gd ?_ ?_<;>intro v0
   ·have Z:kput (⟨s.Value,s.Color,true⟩:Fo) true (kput (⟨s.Value,s.Color,false⟩:Fo) true (kyK (fkL b h ((allE m b.Dur).take k))))=(kyK (fkL b h ((allE m b.Dur).take (k+1)))):=by simp_all[ziS]
    refine gq ?_;refine zaf (zd4 (q:=(⟨s.Value,s.Color,true⟩:Fo)) (venc:=AV.bool) true zm2 rfl rfl rfl zm4 rfl rfl Tryz.underlying153 (λ_ _=>rfl)) ?_;refine gq ?_;refine yz (k+1) (hI:=yi)
   ·have Z:kput (⟨s.Value,s.Color,false⟩:Fo) true (kyK (fkL b h ((allE m b.Dur).take k)))=(kyK (fkL b h ((allE m b.Dur).take (k+1)))):=by simp_all[ziS]
    refine gq ?_;refine yz (k+1) (hI:=yi)
  ·refine gd ?_ ?_<;>intro u4
   ·have Z:kput (⟨s.Value,s.Color,true⟩:Fo) true (kyK (fkL b h ((allE m b.Dur).take k)))=(kyK (fkL b h ((allE m b.Dur).take (k+1)))):=by simp_all[ziS]
    refine gq ?_;refine zaf (zd4 (q:=(⟨s.Value,s.Color,true⟩:Fo)) (venc:=AV.bool) true zm2 rfl rfl rfl zm4 rfl rfl Tryz.underlying153 (λ_ _=>rfl)) ?_;refine gq ?_;refine yz (k+1) (hI:=yi)
   ·have Z:(kyK (fkL b h ((allE m b.Dur).take k)))=(kyK (fkL b h ((allE m b.Dur).take (k+1)))):=by simp_all
    refine gq ?_;refine yz (k+1) (hI:=yi)
 ·obtain rfl:k=(allE m b.Dur).length:=by omega
  have u3:kyK (fkL b h ((allE m b.Dur).take (allE m b.Dur).length))=kyK (fkL b h (allE m b.Dur)):=by simp
  have u2:=zy2 (kyK (fkL b h (allE m b.Dur)));apply kO;apply yf;refine kJ (st':=⟨[(4,.ptr 4 0 0 0),(9,.mp 24)],[(4,.box (btE b) 100),(24,.mpb (λf:Fo=>foA f) AV.bool (kyK (fkL b h (allE m b.Dur))))]⟩) yi ?_;apply yj;refine yh ?_;iterate 2 apply yf
  refine kJ (yI foE 158 3 12 30 rfl rfl) ?_;apply yj;refine ya ?_;refine zwY (K:=158) (E:=4) 1000002 (λkb bm=>?_) (ht:=Tryz.underlying153);refine gq ?_;refine zd3 (ι:=Array Nat) (λ(s:Array Nat)=>[(4,.ptr 4 0 0 0),(9,.mp 24),(12,.own 30),(61,.val (.pointer (some ⟨kb,0,none⟩)))]) (λ(s:Array Nat)=>[(1000002,.hold [.map (some bm)] [.mp 24]),(61,.obj kb (.mapIter (some bm) (kyK (fkL b h (allE m b.Dur))).length s (kyK (fkL b h (allE m b.Dur))).length)),(4,.box (btE b) 100),(24,.mpb (λf:Fo=>foA f) AV.bool (kyK (fkL b h (allE m b.Dur)))),(30,.row foE (ouK (kyK (fkL b h (allE m b.Dur))) s) 158 3)]) (λ(s:Array Nat)=>RnJ (kyK (fkL b h (allE m b.Dur))).length s) (λ(s:Array Nat)=>(kyK (fkL b h (allE m b.Dur))).length-s.size) #[] (λs N=>?_) (hJ:=by exact zy1 _) (h0:=by exact yi);have hJ:=N;apply ye;refine Ex.nxt (k:=24) (kb:=61) (kh:=1000002) (λmo i I H=>?_);refine gd ?_ ?_<;>intro T
  ·subst T;have G:=H rfl;obtain⟨V,Q⟩:=G;obtain⟨p,hp⟩:∃p,(kyK (fkL b h (allE m b.Dur)))[i]? =some p:=⟨_,lgg V⟩;have u1:=zy3 (s:=s) hp;have k5:=zoi (kyK (fkL b h (allE m b.Dur))) s;have k4:=hJ.le;apply yk;apply kB;apply ye;refine ya (x:=.tup [foA p.1,.bool p.2]) (hs:=ztk (kb:=61) (kh:=1000002) p hp rfl rfl rfl rfl (λ_ _=>rfl) (λ_ _=>rfl)) ?_;refine gq ?_;refine yD foE [p.1] ?_;refine gq ?_;refine yz (s.push i) (hJ:=by exact hJ.s V Q) (hm:=by have h9:=(hJ.s V Q).le;grind) (hI:=yi)
  ·subst T;have xT:=zs7 hJ (I rfl);obtain⟨x4,x3⟩:=xT;have x1:=zsR x4 x3;refine gq ?_;refine zV [(2000000,30)] (zm3 (ouK (kyK (fkL b h (allE m b.Dur))) s) (by rw[zoi];have:=hJ.le;omega)) ?_;apply kQ;apply yf;refine kJ (st':=⟨[(4,.ptr 4 0 0 0),(12,.own 30)],[(4,.box (btE b) 100),(30,.row foE (frL m b h) 158 3)]⟩) yi ?_;apply yj;refine yh ?_;(iterate 2 apply yf);refine kJ (yI sgsE 33 1 14 31 rfl rfl) ?_;apply yj;refine yE ?_;apply kB;refine zu (λq=>[(4,.ptr 4 0 0 0),(14,.own 31),(72,.own 30),(73,iv ((frL m b h).length:Int)),(74,iv (q:Int))]) (λq=>[(4,.box (btE b) 100),(30,.row foE (frL m b h) 158 3),(31,.row sgsE (((frL m b h).take q).map (foS b.Rest)) 33 1)]) ((frL m b h).length) (λq N=>?_);refine gd ?_ ?_<;>intro k3
   ·obtain⟨f,hf⟩:∃f,(frL m b h)[q]? =some f:=⟨_,lgg (by omega)⟩;have x2:(frL m b h)[(q:Int).toNat]? =some f:=by simpa using hf
    have j2:=zyS (r:=b.Rest) hf;have j0:(((frL m b h).take q).map (foS b.Rest)).length<=32:=by grind
    apply yk;apply yf;apply kB;apply ye;refine ya ?_;refine zz (zeY rfl rfl x2 rfl rfl zvg) rfl ?_;refine gq ?_;refine yP (zf5 f b.Rest) ?_;refine yD sgsE [foS b.Rest f] ?_;refine gq ?_;refine yz (q+1) (hI:=yi)
   ·obtain rfl:q=(frL m b h).length:=by omega
    have hV:((frL m b h).take (frL m b h).length).map (foS b.Rest)=frV m b h:=by simp[frV]
    apply kO;apply ye;refine yO ?_;refine kE ?_;refine kA (k9 (k:=31) rfl) ?_;refine gq ?_;all_goals(exact j5 (λz=>zca z) hV)
end Go.Rse
namespace Go.Rse
open Go Go.Proofs Go.Proofs.Tryz
attribute [local irreducible] Pur yA yC Ex X Fn Imp LeV LeB FnO It yH
def rtsE(n q m c:Int):Int:=if(0<n/gI n c/\1099511627776/(n/gI n c)<m/gI m q)\/1048576<q/gI m q*(c/gI n c)then 4 else 0
def rtsV(n q m c:Int):Tm:=if rtsE n q m c=0 then⟨n/gI n c*(m/gI m q),q/gI m q*(c/gI n c)⟩else tmZ
def rmE(a b:Tm):Int:=if yM [a,b]=0 then rtsE a.N a.D b.N b.D else yM [a,b]
def rmV(a b:Tm):Tm:=if yM [a,b]=0 then rtsV a.N a.D b.N b.D else tmZ
attribute [local irreducible] gI
def yZ(a b:Tm):Fn prog 106 [tmA a,tmA b] (.tup [tmA (addV a b),iv (addE a b)]):=by
 refine kF func106 ntmps106 (λg w d=>?_);refine gc (zW a b) ?_;refine gd ?_ ?_<;>intro Z
 ·have hE:addE a b=yM [a,b]:=by unfold addE;rw[j4 Z]
  have U:addV a b=tmZ:=by unfold addV;rw[j4 Z]
  refine gq ?_;refine yr ty83 ?_ ?_;all_goals(first|exact zE hE|exact zE U)
 have V:=zbY Z;have b1:=z7 V.1;have b2:=z7 V.2;have m1:=mulB b1.1 b1.2.1 b2.2.2.1 b2.2.2.2.1;have m2:=mulB b2.1 b2.2.1 b1.2.2.1 b1.2.2.2.1;have m3:=mulB b1.2.2.1 b1.2.2.2.1 b2.2.2.1 b2.2.2.2.1;have m4:=mulP b1.2.2.2.2.1 b2.2.2.2.2.1;have hE:addE a b=tmkE (a.N*b.D+b.N*a.D) (a.D*b.D):=by unfold addE;rw[j3 Z]
 have U:addV a b=tmkT (a.N*b.D+b.N*a.D) (a.D*b.D):=by unfold addV;rw[j3 Z]
 refine gc (zbX (a.N*b.D+b.N*a.D) (a.D*b.D) (by omega) (by omega) (by omega) (by omega)) ?_;refine yr ty83 ?_ ?_;all_goals(first|exact zE hE|exact zE U)
def zcl(n q m c:Int)(n0:0<=n)(n1:n<=1099511627776)(q0:1<=q)(q1:q<=1048576)(m0:0<=m)(m1:m<=1099511627776)(c0:1<=c)(c1:c<=1099511627776):Fn prog 286 [iv n,iv q,iv m,iv c] (.tup [tmA (rtsV n q m c),iv (rtsE n q m c)]):=by
 have U:=zcf (n:=n) (d:=c) (by omega);have T:=zcf (n:=m) (d:=q) (by omega);have n2:=wU n0 (uD U);have n3:=u0 (gI n c) n0;have c2:=wU (show 0<=c by omega) (uD U);have c3:=u0 (gI n c) (show 0<=c by omega);have m2:=wU m0 (uD T);have m3:=u0 (gI m q) m0;have q2:=wU (show 0<=q by omega) (uD T);have q3:=u0 (gI m q) (show 0<=q by omega);have mB:=mulB q2 (show q/gI m q<=1048576 by omega) c2 (show c/gI n c<=1099511627776 by omega);refine kF func286 ntmps286 (λg w d=>?_);refine gc (zaF n c (by omega) (by omega) (by omega) (by omega)) ?_;refine yP (zaF m q (by omega) (by omega) (by omega) (by omega)) ?_;iterate 2 refine ya ?_
 apply yG;iterate 4 refine ya ?_
 apply yG;iterate 4 refine ya ?_
 apply yG;iterate 4 refine ya ?_
 apply yG;refine ya ?_;refine yE ?_;apply yf;apply ye;iterate 2 refine ya ?_
 refine kI 2 ?_;refine yp ?_;iterate 4 refine kG ?_
 iterate 2 refine yp ?_
 iterate 4 refine kG ?_
 refine gf ?_ ?_<;>intro Z
 ·have hE:rtsE n q m c=4:=by unfold rtsE;rw[j3 Z]
  have V:rtsV n q m c=tmZ:=by unfold rtsV;rw[j4 (by omega)]
  refine gq ?_;refine yr ty83 ?_ ?_;all_goals(first|exact zE hE|exact zE V)
 have hE:rtsE n q m c=0:=by unfold rtsE;rw[j4 (λh=>by omega)]
 have V:rtsV n q m c=⟨n/gI n c*(m/gI m q),q/gI m q*(c/gI n c)⟩:=by unfold rtsV;rw[j3 hE]
 have hnm:0<=n/gI n c*(m/gI m q)/\n/gI n c*(m/gI m q)<=1099511627776:=by
  refine⟨vF n2 m2,?_⟩;by_cases Q:0<n/gI n c
  ·exact zfb Q (by decide) (by omega)
  ·rw[show n/gI n c=0 by omega,Int.zero_mul];decide
 refine gq ?_;refine yr ty83 ?_ ?_;all_goals(first|exact zE hE|exact zE V)
def zgG(a b:Tm):Fn prog 241 [tmA a,tmA b] (.tup [tmA (rmV a b),iv (rmE a b)]):=by
 refine kF func241 ntmps241 (λg w d=>?_);refine gc (zW a b) ?_;refine gd ?_ ?_<;>intro Z
 ·have hE:rmE a b=yM [a,b]:=by unfold rmE;rw[j4 Z]
  have U:rmV a b=tmZ:=by unfold rmV;rw[j4 Z]
  refine gq ?_;refine yr ty83 ?_ ?_;all_goals(first|exact zE hE|exact zE U)
 have V:=zbY Z;have b1:=z7 V.1;have b2:=z7 V.2;have hE:rmE a b=rtsE a.N a.D b.N b.D:=by unfold rmE;rw[j3 Z]
 have U:rmV a b=rtsV a.N a.D b.N b.D:=by unfold rmV;rw[j3 Z]
 refine gc (zcl a.N a.D b.N b.D (by omega) (by omega) (by omega) (by omega) (by omega) (by omega) (by omega) (by omega)) ?_;refine yr ty83 ?_ ?_;all_goals(first|exact zE hE|exact zE U)
end Go.Rse
