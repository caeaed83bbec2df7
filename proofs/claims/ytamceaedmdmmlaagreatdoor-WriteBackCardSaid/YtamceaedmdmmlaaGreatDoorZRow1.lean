/-
  Opening a row's arguments: what lies in memory, as plain data.
-/
import Derived.Test.YtamceaedmdmmlaaGreatDoorZLogA
import Derived.WideShapes
import Derived.DataReads
import Derived.Below
import Derived.ChangeShapes
set_option linter.all false
namespace Go.Rse
open Go Go.RowKit Go.WideShapes
def okK(k:Nat)(v:Value):Prop:=(k=1->∃n,v=.int .i64 n/\(Lit.int .i64 n).wf=true)/\(k=2->∃b,v=.bool b)
def fits(L:List Nat)(cs:List Value):Prop:=cs.length=L.length/\∀(j k:Nat)(v:Value),L[j]? =some k->cs[j]? =some v->okK k v
theorem znl{L M:List Nat}{cs ds:List Value}(h:fits L cs)(V:fits M ds):fits (L++M) (cs++ds):=by
 refine⟨by simp[h.1,V.1],λj k v hk hv=>?_⟩;rw[wM]at hk hv;split at hk
 ·rename_i Z;rw[j6 (by rw[h.1];exact Z)]at hv;exact h.2 j k v hk hv
 ·rename_i Z;rw[j7 (by rw[h.1];exact Z),h.1]at hv;exact V.2 _ k v hk hv
section
variable{H:Type}{ench:TypeId×Value->H}{P:Program}{w:World}{base:Nat}{sp:Nat->Bool}{held:Bool}
theorem zhS{E:TypeId->Bool}{F:TypeId->List Nat}{fuel:Nat}(hE:∀t cs x,E t=true->DataW.trod ench P w base sp held fuel t cs=some x->fits (F t) cs):∀(fs:List Field)(off n:Nat),zc6 P E F off fs n=true->∀(cs:List Value)xs,cs.length=n→
 fs.mapM (λf=>DataW.trod ench P w base sp held fuel f.type ((cs.drop f.offset).take (P.cellsOf f.type)))=some xs->fits (fs.flatMap λf=>F f.type) (cs.drop off)
 |[],off,n,h,cs,xs,hl,hm=>by
  simp[zc6]at h;rw[wH (by omega)];exact⟨rfl,λj k v hk=>by simp at hk⟩
 |f::fs,off,n,h,cs,xs,hl,hm=>by
  simp only[zc6,jA,beq_iff_eq,wJ]at h;obtain⟨⟨⟨⟨⟨h1,T⟩,N⟩,J,Z⟩,V⟩,U⟩:=h;rw[xL]at hm;cases hf:DataW.trod ench P w base sp held fuel f.type ((cs.drop f.offset).take (P.cellsOf f.type))with
  |none=>simp[hf]at hm
  |some x=>
   cases hr:fs.mapM (λf=>DataW.trod ench P w base sp held fuel f.type ((cs.drop f.offset).take (P.cellsOf f.type)))with
   |none=>simp[hf,hr]at hm
   |some ys=>
    have q1:=hE _ _ _ V hf;have q2:=zhS hE fs _ n U cs ys hl hr
    have e:cs.drop off=(cs.drop off).take (P.cellsOf f.type)++cs.drop (off+P.cellsOf f.type):=by
     rw[←xK,wB]
    rw[e,vX];rw[h1]at q1;exact znl q1 q2
theorem zhA:∀(d fuel:Nat)(t:TypeId)(cs:List Value)x,eqOk P d t=true->DataW.trod ench P w base sp held fuel t cs=some x->fits (flat P d t) cs
 |0,fuel,t,cs,x,h,_=>by simp[eqOk]at h
 |d+1,0,t,cs,x,h,hx=>by simp[DataW.trod]at hx
 |d+1,fuel+1,t,cs,x,h,hx=>by
  unfold eqOk at h;unfold flat;unfold DataW.trod at hx;cases Z:P.underlying t with
  |none=>simp[Z]at h
  |some T=>
   cases T with
   |bool=>
    simp only[Z]at hx⊢;split at hx<;>simp_all;rename_i b
    exact⟨rfl,λj k v hk hv=>by
     cases j with
     |zero=>simp at hk hv;subst hk;subst hv;exact⟨λh=>by simp at h,λ_=>⟨_,rfl⟩⟩
     |succ j=>simp at hk⟩
   |int q=>
    simp only[Z]at hx⊢;split at hx<;>simp_all;rename_i k' n k2 e;obtain⟨⟨e1,e2⟩,e3⟩:=hx;subst e1
    exact⟨rfl,λj k v hk hv=>by
     cases j with
     |zero=>
      simp at hk hv;subst hv;refine⟨λh=>?_,λh=>?_⟩
      ·rw[h]at hk;split at hk
       ·rename_i e;subst e;exact⟨_,rfl,e2⟩
       ·simp at hk
      ·rw[h]at hk;split at hk<;>simp at hk
     |succ j=>simp at hk⟩
   |struct fs=>
    simp only[Z,jA]at h hx⊢;split at hx
    ·rename_i hl;cases hm:fs.toList.mapM (λf=>DataW.trod ench P w base sp held fuel f.type ((cs.drop f.offset).take (P.cellsOf f.type)))with
     |none=>simp[hm]at hx
     |some xs=>
      have:=zhS (E:=eqOk P d) (F:=flat P d) (λt cs x ht hx=>zhA d fuel t cs x ht hx) fs.toList 0 _ h.2 cs xs hl hm;simpa using this
    ·simp at hx
   |_=>simp[Z]at h
end
def avV:Value->AV
 |.int k n=>.int k n
 |.bool b=>.bool b
 |_=>.any
theorem zsV{I:Im}{ρ:Nat->Value}(v:Value):RV I ρ (avV v) v:=by
 cases v<;>first|exact .int _ _|exact .bool _|exact .any _
theorem zzs{I:Im}{ρ:Nat->Value}{as:List AV}{cs:List Value}(h:as=cs.map avV):RVL I ρ as cs:=by
 subst h;refine⟨by simp,λj c v Z hv=>?_⟩;rw[jN,hv]at Z;simp at Z;subst Z;exact zsV v
def wIm(w:World):Im:=λb o=>w.cell? ⟨b,o,none⟩
def g0(w:World):Gh:=⟨noNames,wIm w,λ_=>none⟩
theorem zCq(w:World)(Z:Im.le gIm (wIm w)):ImOB (g0 w) w:=⟨λb o u h=>⟨h,rfl⟩,λb k h=>by simp[g0]at h,Z⟩
section
variable{H:Type}{ench:TypeId×Value->H}{P:Program}{w:World}{sp:Nat->Bool}{held:Bool}{r:Reach}{b0:Nat}
theorem open_st{t:TypeId}{d:Nat}{L:List Nat}{α:Type}{enc:α->List AV}{dec:List Value->α}{v:Value}{dd:DataW H}{ps:List MemPlace}{ρ:Nat->Value}(hs:∃fs,P.underlying t=some (.struct fs))(hE:(eqOk P d t&&decide (d<=10000))=true)(V:flat P d t=L)
 (Z:∀cs,fits L cs->enc (dec cs)=cs.map avV)(hv:Value.okWide P w r b0 t v)(h:DataW.Trod ench P w 0 sp held t v dd ps):∃cs,fits L cs/\RV (wIm w) ρ (.agg (enc (dec cs))) v:=by
 simp only[jA]at hE;obtain⟨fs,U⟩:=hs;obtain⟨cs,rfl,-⟩:=okWide_struct U hv;obtain⟨fuel,hf⟩:=h;have:=zhA d fuel t _ _ hE.1 hf;rw[V]at this;refine⟨cs.toList,this,?_⟩;obtain⟨h1,T⟩:=zzs (I:=wIm w) (ρ:=ρ) (Z _ this);have:=RV.agg (I:=wIm w) (ρ:=ρ) _ cs.toList h1 T;simpa[Value.cells]using this
theorem open_int{t:TypeId}{v:Value}{dd:DataW H}{ps:List MemPlace}{ρ:Nat->Value}(Z:P.underlying t=some (.int .i64))(hv:Value.okWide P w r b0 t v)(h:DataW.Trod ench P w 0 sp held t v dd ps):∃n,(Lit.int .i64 n).wf=true/\RV (wIm w) ρ (.int .i64 n) v:=by
 obtain⟨n,rfl⟩:=okWide_int Z hv;obtain⟨fuel,hf⟩:=h;cases fuel with
 |zero=>simp[DataW.trod]at hf
 |succ fuel=>
  unfold DataW.trod at hf;simp only[Z,Value.cells]at hf;split at hf<;>simp_all;exact⟨_,by assumption,.int _ _⟩
theorem open_sl{t e:TypeId}{d c:Nat}{L:List Nat}{α:Type}{enc:α->List AV}{dec:List Value->α}{v:Value}{dd:DataW H}{ps:List MemPlace}{ρ:Nat->Value}(hu:P.underlying t=some (.slice e))(hc:P.cellsOf e=c)(h0:0<c)(hE:(eqOk P d e&&decide (d<=10000))=true)(hL:flat P d e=L)(x4:L.length=c)
 (J:∀cs,fits L cs->enc (dec cs)=cs.map avV)(hv:Value.okWide P w r b0 t v)(h:DataW.Trod ench P w 0 sp held t v dd ps):∃l:List (List Value),(∀cs∈l,fits L cs)/\l.length<=maxLen/\RV (wIm w) ρ (.sl enc (l.map dec)) v:=by
 simp only[jA]at hE;obtain⟨a,len,cap,rfl⟩:=okWide_slice hu hv;obtain⟨fuel,hf⟩:=h
 have nilc:∀n c,n=0->c=0->RV (wIm w) ρ (.sl enc (([]:List (List Value)).map dec)) (.slice none n c):=λn c h1 U=>by
  subst h1;subst U;exact .sl enc [] none 0 0 0 0 (λ_ _=>.nilIface) (λh=>absurd rfl h) (jE _) (wK _) (λi x h=>by simp at h) (λi x j h=>by simp at h) (λi x j cell h=>by simp at h)
 cases fuel with
 |zero=>simp[DataW.trod]at hf
 |succ fuel=>
  unfold DataW.trod at hf;simp only[hu,Value.cells]at hf;split at hf;all_goals try(simp_all;done)
  ·refine⟨[],by simp,wK _,?_⟩;rename_i h1 U G;simp at G;obtain⟨rfl,rfl,rfl⟩:=G;exact nilc 0 0 rfl rfl
  ·rename_i e' a' len' cap' h1 U;simp at h1 U;obtain⟨rfl,rfl,rfl⟩:=U;subst h1;split at hf
   ·rename_i hb;cases hm:(List.range len).mapM (λi=>(w.cells? 0 (a'.add (i*P.cellsOf e)) (P.cellsOf e)).bind (DataW.trod ench P w 0 sp held fuel e))with
    |none=>simp[hm]at hf
    |some xs=>
     have E:∀i,i<len->∃cs,w.cells? 0 (a'.add (i*c)) c=some cs/\fits L cs:=λi hi=>by
      have G:=mapM_some_get hm i i (by simp[hi]);have w9:xs.length=len:=by simpa using mapM_some_length hm
      rw[jB (by omega)]at G;rw[hc]at G;cases h4:w.cells? 0 (a'.add (i*c)) c with
      |none=>simp[h4]at G
      |some cs=>
       simp[h4]at G;refine⟨cs,rfl,?_⟩;rw[←hL];exact zhA d fuel e cs _ hE.1 G
     let cell:Nat->List Value:=λi=>if h:i<len then(E i h).choose else[]
     have Z:∀i,i<len->w.cells? 0 (a'.add (i*c)) c=some (cell i)/\fits L (cell i):=λi hi=>by
      have:=(E i hi).choose_spec;simp only[cell,hi,dif_pos];exact this
     have x3:((List.range len).map cell).length=len:=by simp
     have key:=RV.sl (I:=wIm w) (ρ:=ρ) enc (((List.range len).map cell).map dec) (some a') a'.block a'.off c cap (λi j=>((cell i)[j]?).getD .nilIface)
      (λx2=>by
       have x1:0<len:=by
        rcases kE len with h|h
        ·subst h;simp at x2
        ·exact h
       obtain⟨h5,h6⟩:=Z 0 x1;obtain⟨_,h7,h8⟩:=World.cells?_some h5;have h9:=h8 0 h0;rw[jB (by omega)]at h9;have T:=World.cell?_spot h9;obtain⟨B,O,S⟩:=a';simp[Addr.add]at T;simp[T])
      (by simp;exact hb.2.1) hb.2.2
      (λi x hx=>by
       simp at hx;obtain⟨i',V,rfl⟩:=hx
       obtain⟨hi,rfl⟩:i<len/\i'=i:=by
        rw[j5]at V;obtain⟨h1,U⟩:=V;simp at h1 U;exact⟨h1,U.symm⟩
       rw[J _ (Z i' hi).2,jS,(Z i' hi).2.1,x4])
      (λi x j hx hj=>by
       simp at hx;obtain⟨i',V,rfl⟩:=hx
       obtain⟨hi,rfl⟩:i<len/\i'=i:=by
        rw[j5]at V;obtain⟨h1,U⟩:=V;simp at h1 U;exact⟨h1,U.symm⟩
       obtain⟨h5,h6⟩:=Z i' hi;obtain⟨_,h7,h8⟩:=World.cells?_some h5;have h9:=h8 j hj;have xT:j<(cell i').length:=by omega
       rw[jB xT]at h9;have T:=World.cell?_spot h9;simp only[wIm,jB xT,vR];rw[←h9];congr 1;obtain⟨B,O,S⟩:=a';unfold Addr.add;unfold Addr.add at T;by_cases e1:i'*c=0<;>by_cases e2:j=0<;>simp[e1,e2]at T⊢<;>simp_all)
      (λi x j cl hx N=>by
       simp at hx;obtain⟨i',V,rfl⟩:=hx
       obtain⟨hi,rfl⟩:i<len/\i'=i:=by
        rw[j5]at V;obtain⟨h1,U⟩:=V;simp at h1 U;exact⟨h1,U.symm⟩
       have h6:=(Z i' hi).2;rw[J _ h6,jN]at N;cases hv:(cell i')[j]? with
       |none=>simp[hv]at N
       |some u=>simp[hv]at N;subst N;exact zsV u)
     refine⟨(List.range len).map cell,λcs x0=>?_,by simp;omega,?_⟩
     ·obtain⟨i,hi,rfl⟩:=jW.1 x0;exact(Z i (by simpa using hi)).2
     ·simpa using key
   ·simp at hf
end
end Go.Rse
