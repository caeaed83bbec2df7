/-
  Opening a row's arguments: what lies in memory, as plain data.
-/
import Derived.Test.YtpapdhoblekoeaaGreatDoorZLogA
import Derived.WideShapes
import Derived.DataReads
import Derived.Below
import Derived.ChangeShapes
set_option linter.all false
namespace Go.Rse
open Go Go.RowKit Go.WideShapes
def okK(k:Nat)(v:Value):Prop:=(k=1->∃n,v=.int .i64 n/\(Lit.int .i64 n).wf=true)/\(k=2->∃b,v=.bool b)
def fits(L:List Nat)(cs:List Value):Prop:=cs.length=L.length/\∀(j k:Nat)(v:Value),L[j]? =some k->cs[j]? =some v->okK k v
theorem znk{L M:List Nat}{cs ds:List Value}(h:fits L cs)(K:fits M ds):fits (L++M) (cs++ds):=by
 refine⟨by simp[h.1,K.1],λj k v hk Q=>?_⟩;rw[uQ]at hk Q;split at hk
 ·rename_i N;rw[j7 (by rw[h.1];exact N)]at Q;exact h.2 j k v hk Q
 ·rename_i N;rw[j8 (by rw[h.1];exact N),h.1]at Q;exact K.2 _ k v hk Q
section
variable{H:Type}{ench:TypeId×Value->H}{P:Program}{w:World}{base:Nat}{sp:Nat->Bool}{held:Bool}
theorem zhI{E:TypeId->Bool}{F:TypeId->List Nat}{fuel:Nat}(hE:∀t cs x,E t=true->DataW.trod ench P w base sp held fuel t cs=some x->fits (F t) cs):∀(fs:List Field)(off n:Nat),zcJ P E F off fs n=true->∀(cs:List Value)xs,cs.length=n→
 fs.mapM (λf=>DataW.trod ench P w base sp held fuel f.type ((cs.drop f.offset).take (P.cellsOf f.type)))=some xs->fits (fs.flatMap λf=>F f.type) (cs.drop off)
 |[],off,n,h,cs,xs,hl,hm=>by
  simp[zcJ]at h;rw[wT aa];exact⟨rfl,λj k v hk=>by simp at hk⟩
 |f::fs,off,n,h,cs,xs,hl,hm=>by
  simp only[zcJ,jE,beq_iff_eq,wL]at h;obtain⟨⟨⟨⟨⟨h1,G⟩,h3⟩,h4,Q⟩,N⟩,K⟩:=h;rw[kC]at hm;cases hf:DataW.trod ench P w base sp held fuel f.type ((cs.drop f.offset).take (P.cellsOf f.type))with
  |none=>simp[hf]at hm
  |some x=>
   cases hr:fs.mapM (λf=>DataW.trod ench P w base sp held fuel f.type ((cs.drop f.offset).take (P.cellsOf f.type)))with
   |none=>simp[hf,hr]at hm
   |some ys=>
    have q1:=hE _ _ _ N hf;have q2:=zhI hE fs _ n K cs ys hl hr
    have e:cs.drop off=(cs.drop off).take (P.cellsOf f.type)++cs.drop (off+P.cellsOf f.type):=by
     rw[←kA,wV]
    rw[e,uH];rw[h1]at q1;exact znk q1 q2
theorem zkO:∀(d fuel:Nat)(t:TypeId)(cs:List Value)x,eqOk P d t=true->DataW.trod ench P w base sp held fuel t cs=some x->fits (flat P d t) cs
 |0,fuel,t,cs,x,h,_=>by simp[eqOk]at h
 |d+1,0,t,cs,x,h,hx=>by simp[DataW.trod]at hx
 |d+1,fuel+1,t,cs,x,h,hx=>by
  unfold eqOk at h;unfold flat;unfold DataW.trod at hx;cases Q:P.underlying t with
  |none=>simp[Q]at h
  |some T=>
   cases T with
   |bool=>
    simp only[Q]at hx⊢;split at hx<;>simp_all;rename_i b
    exact⟨rfl,λj k v hk N=>by
     cases j with
     |zero=>simp at hk N;subst hk;subst N;exact⟨λh=>by simp at h,λ_=>⟨_,rfl⟩⟩
     |succ j=>simp at hk⟩
   |int q=>
    simp only[Q]at hx⊢;split at hx<;>simp_all;rename_i k' n k2 e;obtain⟨⟨e1,e2⟩,e3⟩:=hx;subst e1
    exact⟨rfl,λj k v hk N=>by
     cases j with
     |zero=>
      simp at hk N;subst N;refine⟨λh=>?_,λh=>?_⟩
      ·rw[h]at hk;split at hk
       ·rename_i e;subst e;exact⟨_,rfl,e2⟩
       ·simp at hk
      ·rw[h]at hk;split at hk<;>simp at hk
     |succ j=>simp at hk⟩
   |struct fs=>
    simp only[Q,jE]at h hx⊢;split at hx
    ·rename_i hl;cases hm:fs.toList.mapM (λf=>DataW.trod ench P w base sp held fuel f.type ((cs.drop f.offset).take (P.cellsOf f.type)))with
     |none=>simp[hm]at hx
     |some xs=>
      have:=zhI (E:=eqOk P d) (F:=flat P d) (λt cs x ht hx=>zkO d fuel t cs x ht hx) fs.toList 0 _ h.2 cs xs hl hm;simpa using this
    ·simp at hx
   |_=>simp[Q]at h
end
def avV:Value->AV
 |.int k n=>.int k n
 |.bool b=>.bool b
 |_=>.any
theorem zAj{I:Im}{ρ:Nat->Value}(v:Value):RV I ρ (avV v) v:=by
 cases v<;>first|exact .int _ _|exact .bool _|exact .any _
def wIm(w:World):Im:=λb o=>w.cell? ⟨b,o,none⟩
def g0(w:World):Gh:=⟨noNames,wIm w,λ_=>none⟩
theorem zDH(w:World)(Q:Im.le gIm (wIm w)):ImOB (g0 w) w:=⟨λb o u h=>⟨h,rfl⟩,λb k h=>by simp[g0]at h,Q⟩
section
variable{H:Type}{ench:TypeId×Value->H}{P:Program}{w:World}{sp:Nat->Bool}{held:Bool}{r:Reach}{b0:Nat}
theorem open_int{t:TypeId}{v:Value}{dd:DataW H}{ps:List MemPlace}{ρ:Nat->Value}(Q:P.underlying t=some (.int .i64))(N:Value.okWide P w r b0 t v)(h:DataW.Trod ench P w 0 sp held t v dd ps):∃n,(Lit.int .i64 n).wf=true/\RV (wIm w) ρ (.int .i64 n) v:=by
 obtain⟨n,rfl⟩:=okWide_int Q N;obtain⟨fuel,hf⟩:=h;cases fuel with
 |zero=>simp[DataW.trod]at hf
 |succ fuel=>
  unfold DataW.trod at hf;simp only[Q,Value.cells]at hf;split at hf<;>simp_all;exact⟨_,ai,.int _ _⟩
theorem open_sl{t e:TypeId}{d c:Nat}{L:List Nat}{α:Type}{enc:α->List AV}{dec:List Value->α}{v:Value}{dd:DataW H}{ps:List MemPlace}{ρ:Nat->Value}(hu:P.underlying t=some (.slice e))(hc:P.cellsOf e=c)(h0:0<c)(hE:(eqOk P d e&&decide (d<=10000))=true)(hL:flat P d e=L)(x0:L.length=c)
 (xT:∀cs,fits L cs->enc (dec cs)=cs.map avV)(hv:Value.okWide P w r b0 t v)(h:DataW.Trod ench P w 0 sp held t v dd ps):∃l:List (List Value),(∀cs∈l,fits L cs)/\l.length<=maxLen/\RV (wIm w) ρ (.sl enc (l.map dec)) v:=by
 simp only[jE]at hE;obtain⟨a,len,cap,rfl⟩:=okWide_slice hu hv;obtain⟨fuel,hf⟩:=h
 have nilc:∀n c,n=0->c=0->RV (wIm w) ρ (.sl enc (([]:List (List Value)).map dec)) (.slice none n c):=λn c h1 K=>by
  subst h1;subst K;exact .sl enc [] none 0 0 0 0 (λ_ _=>.nilIface) (λh=>absurd rfl h) (jG _) (jU _) (λi x h=>by simp at h) (λi x j h=>by simp at h) (λi x j cell h=>by simp at h)
 cases fuel with
 |zero=>simp[DataW.trod]at hf
 |succ fuel=>
  unfold DataW.trod at hf;simp only[hu,Value.cells]at hf;split at hf;all_goals try(simp_all;done)
  ·refine⟨[],ah,jU _,?_⟩;rename_i h1 K h3;simp at h3;obtain⟨rfl,rfl,rfl⟩:=h3;exact nilc 0 0 rfl rfl
  ·rename_i e' a' len' cap' h1 K;simp at h1 K;obtain⟨rfl,rfl,rfl⟩:=K;subst h1;split at hf
   ·rename_i hb;cases hm:(List.range len).mapM (λi=>(w.cells? 0 (a'.add (i*P.cellsOf e)) (P.cellsOf e)).bind (DataW.trod ench P w 0 sp held fuel e))with
    |none=>simp[hm]at hf
    |some xs=>
     have x2:∀i,i<len->∃cs,w.cells? 0 (a'.add (i*c)) c=some cs/\fits L cs:=λi hi=>by
      have h3:=mapM_some_get hm i i (by simp[hi]);have v4:xs.length=len:=by simpa using mapM_some_length hm
      rw[jC aa]at h3;rw[hc]at h3;cases h4:w.cells? 0 (a'.add (i*c)) c with
      |none=>simp[h4]at h3
      |some cs=>
       simp[h4]at h3;refine⟨cs,rfl,?_⟩;rw[←hL];exact zkO d fuel e cs _ hE.1 h3
     let cell:Nat->List Value:=λi=>if h:i<len then(x2 i h).choose else[]
     have Q:∀i,i<len->w.cells? 0 (a'.add (i*c)) c=some (cell i)/\fits L (cell i):=λi hi=>by
      have:=(x2 i hi).choose_spec;simp only[cell,hi,dif_pos];exact this
     have w2:((List.range len).map cell).length=len:=ah
     have key:=RV.sl (I:=wIm w) (ρ:=ρ) enc (((List.range len).map cell).map dec) (some a') a'.block a'.off c cap (λi j=>((cell i)[j]?).getD .nilIface)
      (λv9=>by
       have v8:0<len:=by
        rcases x7 len with h|h
        ·subst h;simp at v9
        ·exact h
       obtain⟨h5,h6⟩:=Q 0 v8;obtain⟨_,h7,h8⟩:=World.cells?_some h5;have h9:=h8 0 h0;rw[jC aa]at h9;have G:=World.cell?_spot h9;obtain⟨B,O,S⟩:=a';simp[Addr.add]at G;simp[G])
      (by simp;exact hb.2.1) hb.2.2
      (λi x hx=>by
       simp at hx;obtain⟨i',N,rfl⟩:=hx
       obtain⟨hi,rfl⟩:i<len/\i'=i:=by
        rw[j5]at N;obtain⟨h1,K⟩:=N;simp at h1 K;exact⟨h1,K.symm⟩
       rw[xT _ (Q i' hi).2,jD,(Q i' hi).2.1,x0])
      (λi x j hx hj=>by
       simp at hx;obtain⟨i',N,rfl⟩:=hx
       obtain⟨hi,rfl⟩:i<len/\i'=i:=by
        rw[j5]at N;obtain⟨h1,K⟩:=N;simp at h1 K;exact⟨h1,K.symm⟩
       obtain⟨h5,h6⟩:=Q i' hi;obtain⟨_,h7,h8⟩:=World.cells?_some h5;have h9:=h8 j hj;have x1:j<(cell i').length:=aa
       rw[jC x1]at h9;have G:=World.cell?_spot h9;simp only[wIm,jC x1,xN];rw[←h9];congr 1;obtain⟨B,O,S⟩:=a';unfold Addr.add;unfold Addr.add at G;by_cases e1:i'*c=0<;>by_cases e2:j=0<;>simp[e1,e2]at G⊢<;>simp_all)
      (λi x j cl hx E=>by
       simp at hx;obtain⟨i',N,rfl⟩:=hx
       obtain⟨hi,rfl⟩:i<len/\i'=i:=by
        rw[j5]at N;obtain⟨h1,K⟩:=N;simp at h1 K;exact⟨h1,K.symm⟩
       have h6:=(Q i' hi).2;rw[xT _ h6,j9]at E;cases hv:(cell i')[j]? with
       |none=>simp[hv]at E
       |some u=>simp[hv]at E;subst E;exact zAj u)
     refine⟨(List.range len).map cell,λcs v5=>?_,aj,?_⟩
     ·obtain⟨i,hi,rfl⟩:=jS.1 v5;exact(Q i (ao hi)).2
     ·simpa using key
   ·simp at hf
end
end Go.Rse
