/-
  Blocks that nobody o.
-/
import Derived.Test.YtpapdhoblekoeaaGreatDoorZTk
import Derived.Laws.BytesArg
set_option linter.all false
set_option maxHeartbeats 4000000
namespace Go.Rse
open Go Go.RowKit Go.Proofs.Tryz
section
variable{C:Ctx}{J:Nat->Option Value}{R:Obj->Prop}{a:Act}{b:Nat}{d:IntKind}{ds:List Nat}{g:Gh}{k:Nat}{n:Int}{st:St}{v0:Value}{w:World}{α κ:Type}{kenc:κ->AV}{l:List (κ×α)}{venc:α->AV}
def KpO(b:Nat)(R:Obj->Prop):List Nat->Im->Owns->World->Prop:=λ_ I O w=>O b=none/\∃o,w.heap[b]? =some o/\R o
def KpO.now(h:KpO b R ds C.g0.I C.g0.O C.w0)(hr:Rel C st g a w):∃o,w.heap[b]? =some o/\R o:=by
 obtain⟨N,o,G,h4⟩:=h;have h1:=zb G
 obtain⟨e1,e2⟩:=hr.ext.keep b h1 (λhk=>by
  rcases hk with hk|⟨n,hk⟩
  ·exact absurd hk (kH.2 h1)
  ·rw[N]at hk;cases hk) (λ⟨y,n,hy,hm⟩=>by rw[N]at hm;cases hm)
 exact⟨o,e1.trans G,h4⟩
abbrev pAt(b:Nat):AV:=.val (.pointer (some ⟨b,0,none⟩))
def BoxO(b:Nat)(v:Value):List Nat->Im->Owns->World->Prop:=KpO b λo=>∃E,o=.cells #[v] E (0,0)
def MapO(b:Nat)(kenc:κ->AV)(venc:α->AV)(l:List (κ×α)):List Nat->Im->Owns->World->Prop:=KpO b λo=>∃es ck,o=.map es ck/\(es.size=l.length/\ck=l.length/\∀(i:Nat)e,es[i]? =some e->e.born=i)∧
 ∀(i:Nat)e p,es[i]? =some e->l[i]? =some p->RV (λ_ _=>none) noNames (kenc p.1) e.key/\RV (λ_ _=>none) noNames (venc p.2) e.val
section
variable{P:Program}{C:Ctx}{st:St}{ty:TypeId}{Q:Exit->St->Prop}
variable{T:TypeId}{b:Nat}{ds:List Nat}{k:IntKind}{n:Int}{x:Operand}{α κ:Type}{kenc:κ->AV}{l:List (κ×α)}{venc:α->AV}
def MapO.at(h:MapO b kenc venc l ds C.g0.I C.g0.O C.w0)(N:∀x,(kenc x).flat=true)(G:∀x,(venc x).flat=true):zjK C st kenc venc l b:=λg a w hr=>by
 obtain⟨_,h1,es,ck,rfl,h2,h3⟩:=KpO.now h hr;exact⟨es,ck,h1,h2,λi e p he hp=>⟨(h3 i e p he hp).1.flat (N _),(h3 i e p he hp).2.flat (G _)⟩⟩
def zht(h:ev st x=some (pAt b)):Pur P C (.nilCheck x) ty st (pAt b):=λg a w dst pos af gd hr=>by
 have N:=zac (yq hr h);exact⟨_,by simp[execOp,N],.val _⟩
def zuu(N:BoxO b (.int k n) ds C.g0.I C.g0.O C.w0)(h:ev st x=some (pAt b))(ht:tyOk P T false 1=true):Pur P C (.load T x) ty st (.int k n):=λg a w dst pos af gd hr=>by
 have e:=zac (yq hr h);obtain⟨_,h1,E,rfl⟩:=KpO.now N hr;refine⟨.int k n,?_,.int _ _⟩;simp only[execOp,e,jM,Instr.loadAt,Instr.sureAddr,jP,jH,zaT ht (show w.cell? ⟨b,0,none⟩=some (.int k n)by simp[World.cell?,h1])]
def zrO{y:Operand}(G:BoxO b (.int k n) ds C.g0.I C.g0.O C.w0)(hx:ev st x=some (pAt b))(hy:ev st y=some (.int k n))(ht:tyOk P T false 1=true):yu P C (.store T x y) ty none st st:=λg a w pos af gd hr K hK=>by
 have ex:=zac (yq hr hx);have ey:=yK (yq hr hy);obtain⟨_,h1,E,rfl⟩:=KpO.now G hr;have N:=run_storeCells_at (P:=P) b 0 E [.int k n] 0 #[.int k n] w h1 ah (by simp[Value.oneCell']);rw[show(List.take (0+0) (#[Value.int k n]).toList++[Value.int k n]++List.drop (0+0+[Value.int k n].length) (#[Value.int k n]).toList).toArray= #[Value.int k n]from rfl,setRow_self w b _ E (0,0) h1]at N
 have h2:(Instr.storeAt T (.pointer (some ⟨b,0,none⟩)) (.int k n)).run P w=.ok () w:=by
  simp only[Instr.storeAt,Instr.sureAddr,jM,jP,jH,storeVar,yJ ht];simp_all[Value.cells]
 simp only[wp1,execOp,ex,ey,jM,h2,jH,jP,zbH];exact hK _ _ _ hr
def zuv{ops:Array Oper}{rest:List Oper}{d:Nat}{pos:String}{af:Array Edge}{κ α:Type}{kenc:κ->AV}{venc:α->AV}{l:List (κ×α)}{t K E:TypeId}{x:Operand}{bm:Nat}(hm:zjK C st kenc venc l bm)
 (h:∀b,Ex P C ops rest ⟨(d,pAt b)::st.t,(d,.obj b (.mapIter (some bm) l.length #[] l.length))::st.h⟩ Q)
 (hx:ev st x=some (.val (.map (some bm))):=by exact rfl)(ht:P.underlying t=some (.map K E):=by exact rfl)(G:dOk C.n (some d)=true:=by exact rfl)(hn:st.fr d=true:=by exact rfl):
 Ex P C ops ({dst:=some d,op:=.range t x,type:=ty,pos:=pos,after:=af,guard:=none}::rest) st Q:=λg a w hr=>by
 obtain⟨es,ck,h4,h5,h6⟩:=hm g a w hr;have ex:=zac (yq hr hx);have er:=run_range_map w t K E bm es ck ht h4;rw[h5.2.1]at er;refine wpListIn_plain rfl λK' hK=>zaf ?_
 simp only[wp1,execOp,ex,jM,er,jH,jP,zbH];refine hK _ _ ?_
 exact h _ _ _ _ (hr.addSt (nb:=some (d,.obj w.heap.size (.mapIter (some bm) l.length #[] l.length))) (Add.nw (c9 _ _) C.d d .nilIface) G hn (.val _) (ImOB.nw ⟨hr.sat.im,hr.sat.ob⟩ (c9 _ _) ah C.d d _).1 (ImOB.nw ⟨hr.sat.im,hr.sat.ob⟩ (c9 _ _) ah C.d d _).2 λk' B N=>by
  injection N with N;injection N with e1 e2;subst e1;subst e2;exact⟨heap_alloc_new w _,by simp[Gh.nw],.inl hr.ext.size⟩)
end
def frzV(k:Nat)(v0:Value):AV->AV
 |.ptr k' s i j=>bif k'.beq k&&s.beq 0&&i.beq 0&&j.beq 0 then .val v0 else cln k (.ptr k' s i j)
 |.mp k'=>bif k'.beq k then .val v0 else .mp k'
 |x=>cln k x
def Rel.letV(hr:Rel C st g a w)(hb:g.O b=some (C.d,k)/\C.okb b)(hρ:g.ρ k=v0)(N:v0=.pointer (some ⟨b,0,none⟩)\/v0=.map (some b))(hJ:∀o v,J o=some v->w.cell? ⟨b,o,none⟩=some v):
 ∃g',Rel C {t:=mapT (frzV k v0) st.t,h:=(k,.dead)::mapH (frzV k v0) st.h} g' a w/\g'.O b=none/\∀o,g'.I b o=J o:=by
 have G:Im.le g.I (λb' o=>if b'=b then J o else g.I b' o):=λb' o v hI=>by
  have:b'≠b:=λe=>by have:=(hr.sat.im b' o v hI).2;simp_all
  simp[this,hI]
 refine⟨_,hr.letgo (b:=b) (J:=J) (frzV k v0) hb hJ λx v hx=>?_,ah,λo=>by simp⟩;have xT:∀{x:AV}{v:Value},RV g.I g.ρ x v->RV (λb' o=>if b'=b then J o else g.I b' o) g.ρ (cln k x) v:=λhx=>(hx.mono G).cln (λ_ _=>rfl)
 cases x<;>try exact xT hx
 case ptr k' s i j=>
  show RV _ _ (bif k'.beq k&&s.beq 0&&i.beq 0&&j.beq 0 then .val v0 else cln k (.ptr k' s i j)) v;cases hc:(k'.beq k&&s.beq 0&&i.beq 0&&j.beq 0)with
  |false=>exact xT hx
  |true=>
   simp only[jE,Nat.beq_eq]at hc;obtain⟨⟨⟨rfl,rfl⟩,rfl⟩,rfl⟩:=hc;obtain⟨b',e1,e2⟩:=zad hx;rcases N with N|N
   ·rw[hρ,N]at e1;simp[yT]at e1;subst e1;rw[e2,N];simpa using RV.val _
   ·rw[hρ,N]at e1;simp[yT]at e1
 case mp k'=>
  show RV _ _ (bif k'.beq k then .val v0 else .mp k') v;cases hc:k'.beq k with
  |false=>exact hx.mono G
  |true=>
   have:k'=k:=ao hc
   subst this;obtain⟨b',e1,e2⟩:=zdc hx;rw[←hρ,e2,←e1];exact .val _
def Rel.letBox(hr:Rel C st g a w){E:Nat}(hk:lk st.h k=some (.box [.int d n] E)):
 ∃b g',Rel C {t:=mapT (frzV k (.pointer (some ⟨b,0,none⟩))) st.t,h:=(k,.dead)::mapH (frzV k (.pointer (some ⟨b,0,none⟩))) st.h} g' a w/\g'.I b 0=some (.int d n)/\∀ds,BoxO b (.int d n) ds g'.I g'.O w:=by
 obtain⟨b,vs,h1,h2,h3,h4,N,h6⟩:=hr.sat.blk k _ hk
 have G:vs= #[.int d n]:=by
  have e:=yK (h6 0 _ (vs[0]'(by rw[N];exact Nat.one_pos)) rfl (jZ _));apply Array.ext
  ·rw[N];rfl
  ·intro i hi _;have:i=0:=by rw[N]at hi;simp at hi;exact hi
   subst this;simpa using e
 subst G;obtain⟨g',r1,r2,r3⟩:=hr.letV (J:=λo=>(#[Value.int d n])[o]?) ⟨h2,h3⟩ h1 (.inl rfl) λo v hv=>by simpa[World.cell?,h4]using hv
 exact⟨b,g',r1,r3 0,λds=>⟨r2,_,h4,E,rfl⟩⟩
def Rel.letMap(hr:Rel C st g a w)(hk:lk st.h k=some (.mpb kenc venc l))(N:∀x,(kenc x).flat=true)(G:∀x,(venc x).flat=true):
 ∃b g',Rel C {t:=mapT (frzV k (.map (some b))) st.t,h:=(k,.dead)::mapH (frzV k (.map (some b))) st.h} g' a w/\∀ds,MapO b kenc venc l ds g'.I g'.O w:=by
 obtain⟨b,es,ck,h1,h2,h3,h4,h5,h6⟩:=hr.sat.blk k _ hk;obtain⟨g',r1,r2,r3⟩:=hr.letV (J:=λ_=>none) ⟨h2,h3⟩ h1 (.inr rfl) λo v hv=>by cases hv
 exact⟨b,g',r1,λds=>⟨r2,_,h4,es,ck,rfl,h5,λi e p he hp=>⟨(h6 i e p he hp).1.flat (N _),(h6 i e p he hp).2.flat (G _)⟩⟩⟩
def KpO.up{ds':List Nat}{g':Gh}(h:KpO b R ds g.I g.O w)(N:∀b,g.O b=none->g'.O b=none):KpO b R ds' g'.I g'.O w:=⟨N b h.1,h.2⟩
def Rel.sure(hr:Rel C st g a w){s:Nat}(hs:lk st.t s=some (pAt b))(hI:g.I b 0=some (.int d n)):Rel C ⟨(s,.ept (λ_:Unit=>[.int d n]) () 0)::st.t,st.h⟩ g a w:=by
 refine⟨hr.size,hr.defers,λt x hx=>?_,hr.sat,hr.ext⟩;simp only[ym]at hx;cases G:s.beq t<;>simp[G]at hx
 ·exact hr.tmps t x hx
 ·have:s=t:=ao G
  subst this;subst hx;rw[zac (hr.tmps s _ hs)]
  have:=RV.ept (I:=g.I) (ρ:=g.ρ) (λ_:Unit=>[AV.int d n]) () 0 b 0 (λ_=>.int d n) (λj hj=>by
   have:j=0:=by simp at hj;exact hj
   subst this;exact hI) (λj c N=>by
   have:j=0:=by have:=(j5.1 N).1;simp at this;exact this
   subst this;simp at N;subst N;exact .int _ _)
  exact this
section
variable{P:Program}{C:Ctx}{st:St}{Q:Exit->St->Prop}
variable{caps:List AV}{f:FuncId}{gop:Operand}{ps:Array Tmp}{sl:List Nat}{xs:List (List AV)}{π:Type}{H:π->List Nat->Im->Owns->World->Prop}{caps':π->List AV}
def zrP{assign body:Code}(B:Nat->List AV×List (Nat×Blk))(J:Nat->Prop)(lN hN:Nat)
 (hg:ev st gop=some (.fn f caps))(x2:∀p,AV.nm.nmL (caps' p)=true)(x1:sl.Nodup)(x0:∀(j:Nat)(zs:List AV),xs[j]? =some zs->AV.nm.nmL zs=true)(w2:∀p,ItX P f (caps' p) (λj zs=>xs[j]? =some zs) (· =xs.length) (H p))(v9:RdOk C st)(hl:st.fr lN=true)(hh:st.fr hN=true)(v8:hN≠lN)(v5:C.yB<=C.w0.heap.size)
 (v4:∀p∈ps.toList,p<C.n)(v3:∀(j:Nat)(zs:List AV),xs[j]? =some zs->ps.toList.length=zs.length)(hB:∀j,(B j).1.length=sl.length)(v2:AV.fr.frL lN caps=true)(v1:AV.fr.frL hN caps=true)
 (h0:∀l o us g a w,Rel C ⟨st.t,(hN,.hold us caps)::(lN,.obj l o)::(hN,.dead)::st.h⟩ g a w->∃p g',Rel C ⟨zipT sl (B 0).1,(hN,.hold us (caps' p))::(lN,.obj l o)::(B 0).2⟩ g' a w/\H p (C.d::C.ds) g'.I g'.O w)
 (k9:J 0)(G:∀(j:Nat)(zs:List AV),xs[j]? =some zs->J j->∀(l:Nat)(ready busy:Obj)(rb:Loop)(vs:List Value)g w,busy=.loop rb->C.yB<=w.heap.size->X P (C.rnd l g w) assign ⟨zgJ ps.toList zs (zipT sl (B j).1),(hN,.hold vs (B j).1)::(lN,.obj l ready)::(B j).2⟩
  (λe st1=>e=.normal/\lk st1.h lN=some (.obj l ready)/\X P (C.rnd l g w) body (putH st1 lN (.obj l busy)) (RndQ P C l g w busy lN hN vs sl (B (j+1)) (J (j+1)) Q)))
 (xT:J xs.length->Q .normal ⟨zipT sl (B xs.length).1,(lN,.dead)::(hN,.dead)::(B xs.length).2⟩):X P C (.rangeFunc gop ps assign body) st Q:=
 X.rangeX (X:=λj zs=>xs[j]? =some zs) (N:=(· =xs.length)) B (λj i=>i=j/\J j) 0 lN hN hg x2 x1 x0 w2 v9 hl hh v8 v5 v4 v3 hB v2 v1 h0 ⟨rfl,k9⟩
  (λj zs i hx hJ l ready busy rb vs g w hb hw=>by
   obtain⟨rfl,hJ⟩:=hJ;refine X.mono (G i zs hx hJ l ready busy rb vs g w hb hw) λe st1⟨h1,h2,h3⟩=>⟨h1,h2,X.mono h3 λe st⟨tv,hs,h4,h5⟩=>⟨tv,hs,h4,?_⟩⟩
   cases e<;>first|exact⟨i+1,h5.1,rfl,h5.2⟩|exact h5)
  (λj i hN hJ=>by obtain⟨rfl,hJ⟩:=hJ;subst hN;exact xT hJ)
end
def Rel.ax{C:Ctx}{st:St}{g:Gh}{a:Act}{w:World}{ts:List (Nat×AV)}{hs:List (Nat×Blk)}(hr:Rel C st g a w)(h1:impT st ts:=by
 repeat'(first|exact True.intro|(refine And.intro ⟨_,rfl,?_⟩ ?_;(first|exact bM _|exact LeV.any _|exact bN _|(refine kZ ?_;simp;done)|(refine kZ ?_;congr 1;omega)|(refine kZ ?_;dsimp only;congr 1;omega)|(refine kZ (jA (AV.int _) ?_);omega)|exact bO _|(refine kZ ?_;congr 1<;>assumption)|(refine kZ ?_;assumption)))))(N:impH st hs:=by
 repeat'(first|exact True.intro|(refine And.intro ⟨_,rfl,?_⟩ ?_;(first|exact bN _|exact bW ai|(refine bQ ?_;congr 1<;>assumption)|(refine bQ ?_;congr 1;omega)|(refine bQ ?_;congr 1;simp only[cond_true,cond_false];omega))))):Rel C ⟨ts,hs⟩ g a w:=hr.of h1 N
end
section
section
variable{P:Program}{C:Ctx}{st:St}{ty:TypeId}
variable{k':IntKind}{p:Int}{x:Operand}
def ziV{t f s:Nat}{cs ys:List AV}{off T:Nat}(hf:(match P.underlying t with|some (.struct fs)=>(fs[f]?).map λfd=>(fd.offset,fd.type)|_=>none)=some (off,T))(G:tyOk P T true s=true)(hx:ev st x=some (.agg cs))(hc:(cs.drop off).take s=ys):
 Pur P C (.field t x f) ty st (.agg ys):=λg a w dst pos af gd hr=>by
 obtain⟨vs,e,hl,hv⟩:=zaM (yq hr hx);subst hc;split at hf<;>try(simp at hf;done)
 rename_i fs hu;cases N:fs[f]? with
 |none=>simp[N]at hf
 |some fd=>
  simp[N]at hf;obtain⟨rfl,rfl⟩:=hf
  have key:vs.toArray.extract fd.offset (fd.offset+s)=((vs.drop fd.offset).take s).toArray:=by
   simp[kJ,List.extract]
  refine⟨.agg ((vs.drop fd.offset).take s).toArray,?_,.agg _ _ (by simp[hl]) (λq c v hc xT=>?_)⟩
  ·simp[execOp,Instr.field,e,run_underlying hu,N,asAgg,part,zbp G,yJ G,key]
  grind
def zzD{y:Operand}{xt yt:TypeId}(hx:ev st x=some (.int .u64 p))(N:ev st y=some (.int k' 1)):Pur P C (.binOp .shr xt x y yt) ty st (.int .u64 (p/2)):=λg a w dst pos af gd hr=>
 ⟨_,zgP hr hx N dst pos af gd (.int .u64 (p/2)) (by
  have e:min (1:Int).toNat IntKind.u64.bits=1:=rfl;have e2:p.fdiv (2^1)=p/2:=Int.fdiv_eq_ediv_of_nonneg p ac;simp only[binOp,Op.shift,e,e2];rfl),.int _ _⟩
end
end
end Go.Rse
namespace Go.Rse
open Go Go.Proofs Go.Proofs.Tryz
variable{a:Int}{k:Nat}{l:List Tm}{t:Tm}
def gI(a b:Int):Int:=(Nat.gcd a.natAbs b.natAbs:Nat)
def zo4(h:0<=a):gI a 0=a:=by
 unfold gI;simp;omega
def zo5{b:Int}(N:0<=a)(G:0<b):gI b (a%b)=gI a b:=by
 obtain⟨m,rfl⟩:=Int.eq_ofNat_of_zero_le N;obtain⟨n,rfl⟩:=Int.eq_ofNat_of_zero_le (vV G);unfold gI;have:((m:Int)%(n:Int)).natAbs=m%n:=by rw[←Int.natCast_emod];exact Int.natAbs_natCast _
 rw[this];simp only[Int.natAbs_natCast];rw[Nat.gcd_comm n (m%n),←Nat.gcd_rec,Nat.gcd_comm]
def zg3{n d:Int}(h:0<d):0<gI n d:=by
 unfold gI;have:0<Nat.gcd n.natAbs d.natAbs:=xV _ aa;omega
def tmZ:Tm:=⟨0,0⟩
def ckT(t:Tm):Int:=if t.N<0\/1099511627776<t.N\/t.D<1\/1048576<t.D then 2 else if 1<gI t.N t.D then 3 else 0
def zfj(h:ckT t=0):0<=t.N/\t.N<=1099511627776/\0<=t.D/\t.D<=1048576/\1<=t.D/\gI t.N t.D=1:=by
 unfold ckT at h;split at h
 ·simp at h
 ·split at h
  ·simp at h
  ·have:=zg3 (n:=t.N) (d:=t.D) aa;omega
def y5:List Tm->Int
 |[]=>0
 |t::r=>if ckT t=0 then y5 r else ckT t
def zcS(h:l[k]? =some t):y5 (l.drop k)=if ckT t=0 then y5 (l.drop (k+1))else ckT t:=by
 have h1:=j5.1 h;rw[jQ h1.1,h1.2];rfl
def ziW{a b:Tm}(h:y5 [a,b]=0):ckT a=0/\ckT b=0:=by
 simp only[y5]at h;by_cases N:ckT a=0
 ·rw[j7 N]at h;by_cases G:ckT b=0
  ·exact⟨N,G⟩
  ·rw[j8 G]at h;exact absurd h G
 ·rw[j8 N]at h;exact absurd h N
theorem zkl:∀{l:List Tm},y5 l=0->∀t∈l,ckT t=0
 |[],_,t,ht=>by simp at ht
 |s::r,h,t,ht=>by
  simp only[y5]at h;by_cases hs:ckT s=0
  ·rw[j7 hs]at h;rcases jW.1 ht with rfl|ht
   ·exact hs
   ·exact zkl h t ht
  ·rw[j8 hs]at h;exact absurd h hs
def mulB{x y X Y:Int}(h1:0<=x)(N:x<=X)(G:0<=y)(h4:y<=Y):0<=x*y/\x*y<=X*Y:=
 ⟨uU h1 G,xF N h4 G (xH h1 N)⟩
def mulP{x y:Int}(h1:1<=x)(N:1<=y):1<=x*y:=by
 have:=xF h1 N aa aa;simpa using this
def tmkE(n d:Int):Int:=if n<0\/d<0 then 2 else if d=0 then 5 else if 1099511627776<n/gI n d\/1048576<d/gI n d then 4 else 0
def tmkT(n d:Int):Tm:=if tmkE n d=0 then⟨n/gI n d,d/gI n d⟩else tmZ
def addE(a b:Tm):Int:=if y5 [a,b]=0 then tmkE (a.N*b.D+b.N*a.D) (a.D*b.D)else y5 [a,b]
def addV(a b:Tm):Tm:=if y5 [a,b]=0 then tmkT (a.N*b.D+b.N*a.D) (a.D*b.D)else tmZ
def subE(a b:Tm):Int:=if y5 [a,b]=0 then tmkE (a.N*b.D-b.N*a.D) (a.D*b.D)else y5 [a,b]
def subV(a b:Tm):Tm:=if y5 [a,b]=0 then tmkT (a.N*b.D-b.N*a.D) (a.D*b.D)else tmZ
def bigQ(a b c d:Int):Prop:=(0<a/\1099511627776/a<c)\/(0<d/\1048576/d<b)
instance(a b c d:Int):Decidable (bigQ a b c d):=inferInstanceAs(Decidable (_\/_))
def tmsE(a b c d:Int):Int:=if bigQ (a/gI a d) (b/gI c b) (c/gI c b) (d/gI a d)then 4 else tmkE (a/gI a d*(c/gI c b)) (b/gI c b*(d/gI a d))
def tmsV(a b c d:Int):Tm:=if bigQ (a/gI a d) (b/gI c b) (c/gI c b) (d/gI a d)then tmZ else tmkT (a/gI a d*(c/gI c b)) (b/gI c b*(d/gI a d))
def mulE(a b:Tm):Int:=if y5 [a,b]=0 then tmsE a.N a.D b.N b.D else y5 [a,b]
def mulV(a b:Tm):Tm:=if y5 [a,b]=0 then tmsV a.N a.D b.N b.D else tmZ
def cmpV(a b:Tm):Int:=if y5 [a,b]=0 then(if a.N*b.D<b.N*a.D then-1 else if b.N*a.D<a.N*b.D then 1 else 0)else 0
def sumF:Tm->List Tm->Tm×Int
 |s,[]=>(s,0)
 |s,t::r=>if addE s t=0 then sumF (addV s t) r else(tmZ,addE s t)
def zkm{s:Tm}(h:l[k]? =some t):sumF s (l.drop k)=if addE s t=0 then sumF (addV s t) (l.drop (k+1))else(tmZ,addE s t):=by
 have h1:=j5.1 h;rw[jQ h1.1,h1.2];rfl
def sumE(l:List Tm):Int:=if y5 l=0 then(sumF ⟨0,1⟩ l).2 else y5 l
def sumV(l:List Tm):Tm:=if y5 l=0 then(sumF ⟨0,1⟩ l).1 else tmZ
def zkn{c M:Int}(N:0<a)(hM:0<=M)(h:¬M/a<c):a*c<=M:=by
 have h1:c<=M/a:=aa
 have G:=Int.mul_le_mul_of_nonneg_left h1 (vV N);exact xH G (Int.mul_ediv_self_le aa)
end Go.Rse
namespace Go.Rse
open Go Go.Proofs.Tryz
def two3(n:Int):Prop:=n=2\/n=3
instance(n:Int):Decidable (two3 n):=inferInstanceAs(Decidable (_\/_))
def Mn.p(m:Mn)(v:Int):Int:=if v=1 then m.Max else if v=2 then m.Mod else if v=3 then m.Tem else if v=4 then m.Pro else 2
def Mn.Ok(m:Mn):Prop:=two3 m.Max/\two3 m.Mod/\two3 m.Tem/\two3 m.Pro
instance(m:Mn):Decidable m.Ok:=inferInstanceAs(Decidable (_/\_/\_/\_))
def ckM(m:Mn):Int:=if m.Ok then 0 else 12
def ckMV(m:Mn)(v:Int):Int:=if m.Ok then(if 1<=v/\v<=8 then 0 else 2)else 12
def zo6(m:Mn)(v:Int)(h1:1<=v)(N:v<=4):(mnE m)[(v-1).toNat]? =some (iv (m.p v)):=by
 have:v=1\/v=2\/v=3\/v=4:=aa
 rcases this with rfl|rfl|rfl|rfl<;>rfl
def Mn.ok_iff(m:Mn):m.Ok↔∀v:Int,1<=v->v<=4->two3 (m.p v):=by
 constructor
 ·rintro⟨a,b,c,d⟩v h1 N
  have:v=1\/v=2\/v=3\/v=4:=aa
  rcases this with rfl|rfl|rfl|rfl<;>assumption
 ·intro h;exact⟨h 1 aa aa,h 2 aa aa,h 3 aa aa,h 4 aa aa⟩
end Go.Rse
namespace Go.Rse
open Go Go.Proofs Go.Proofs.Tryz
attribute [local irreducible] Pur yy yu Ex X Fn Imp LeV LeB
section
def zgg(m:Mn):Fn prog 184 [mnA m] (mnA m):=by
 refine bB func184 ntmps184 (λg w d=>?_);refine gq ?_;refine bJ (.one (.cellA rfl rfl rfl rfl zx0 (kZ ?_)));all_goals rfl
def zko(m:Mn)(v:Int)(h1:1<=v)(h8:v<=8):Fn prog 221 [mnA m,iv v] (iv (m.p v)):=by
 refine bB func221 ntmps221 (λg w d=>?_);refine gd ?_ ?_<;>intro N
 ·refine gq ?_;all_goals(first|rfl|(congr 1;unfold Mn.p;rw[j8 aa,j8 aa,j8 aa,j8 aa]))
 have G:=zo6 m v h1 N;refine gq ?_;refine zf (zgg m) ?_;iterate 2 refine ya ?_
 refine yO (zin ztx ty3 rfl rfl aa aa G) rfl ?_;refine gq ?_;all_goals(first|rfl|(congr 1;unfold Mn.p;rw[j8 aa,j8 aa,j8 aa,j8 aa]))
def zce(m:Mn):Fn prog 150 [mnA m] (iv (ckM m)):=by
 refine bB func150 ntmps150 (λg w d=>?_);refine gq ?_;refine zf (zgg m) ?_;refine yk ?_;apply kX;refine zoe (λk=>[(6,mnA m),(7,iv k)]) (λk=>[]) (λk=>k<=4/\∀v:Int,1<=v->v<=k->two3 (m.p v)) 4 (λk hk=>?_) (hJ:=by exact⟨aa,λv h1 h2=>by omega⟩) (h0:=yh);obtain⟨xT,N⟩:=hk;refine gd ?_ ?_<;>intro x2
 ·have hp:=zo6 m ((k:Int)+1) aa aa;rw[show((k:Int)+1-1)=(k:Int)by omega]at hp;apply yf;apply ye;apply kX;apply yc;refine yO (zin ztx ty3 rfl rfl aa aa hp) rfl ?_;refine ya ?_;apply yp;iterate 2 refine ya ?_
  refine bI 2 ?_;refine yw ?_;iterate 2 refine bE ?_
  refine gf ?_ ?_<;>intro x1
  ·refine gq ?_;all_goals(congr 1;unfold ckM;rw[j8 (λh=>by have:=(m.ok_iff.1 h) (k+1) aa aa;unfold two3 at this;omega)])
  have G:two3 (m.p ((k:Int)+1)):=by unfold two3;omega
  refine gq ?_
  refine yr (k+1) (hJ:=by exact⟨aa,λv h1 h2=>by
   by_cases e:v=k+1
   ·rw[e];exact G
   ·exact N v h1 aa⟩)
 ·refine gq ?_;all_goals(congr 1;unfold ckM;rw[j7 (m.ok_iff.2 λv h1 h2=>N v h1 aa)])
def zcz(m:Mn)(v:Int):Fn prog 220 [mnA m,iv v] (iv (ckMV m v)):=by
 refine bB func220 ntmps220 (λg w d=>?_);refine gq ?_;refine zf (zce m) ?_;refine yk ?_;apply ye;apply yc;iterate 2 refine ya ?_
 refine bI 2 ?_;refine yw ?_;iterate 6 refine bE ?_
 refine gf ?_ ?_<;>intro N
 ·refine gq ?_;all_goals(by_cases hm:m.Ok<;>simp_all[ckM,ckMV]<;>omega)
 refine gq ?_;all_goals(by_cases hm:m.Ok<;>simp_all[ckM,ckMV]<;>omega)
def zgh(m:Mn)(v:Int):Fn prog 186 [mnA m,iv v] (.tup [iv (if ckMV m v=0 then m.p v else 0),iv (ckMV m v)]):=by
 refine bB func186 ntmps186 (λg w d=>?_);refine gc (zcz m v) ?_;refine gd ?_ ?_<;>intro N
 ·refine gq ?_;refine yn ?_ ?_;all_goals exact zR
 refine gc (zko m v (by unfold ckMV at N;split at N<;>omega) (by unfold ckMV at N;split at N<;>omega)) ?_;refine yn ?_ ?_;all_goals exact zR
end
section
variable{j k:Nat}{l:List Int}{zs:List AV}
attribute [local irreducible] FnO It yA
def ziX(l:List Int):List (List AV):=(List.range l.length).map λ(j:Nat)=>[iv ((l.length:Int)-1-(j:Int)),iv (l.getD (l.length-1-j) 0)]
def zkp(h:k<l.length):(ziX l)[k]? =some [iv ((l.length:Int)-1-k),iv (l.getD (l.length-1-k) 0)]:=by
 simp[ziX,h]
def zg4(h:(ziX l)[j]? =some zs):j<l.length/\zs=[iv ((l.length:Int)-1-j),iv (l.getD (l.length-1-j) 0)]:=by
 have N:j<l.length:=by have:=(j5.1 h).1;simpa[ziX]using this
 rw[zkp N]at h;exact⟨N,by simpa using h.symm⟩
def zqe(l:List Int):(ziX l).length=l.length:=by simp[ziX]
def zcf(l:List Int)(hl:l.length<=4000000000):It prog 263 [.ept (λ_:Unit=>[.sl intE l]) () 0] (ziX l):=by
 refine zc1 func263 ntmps263 (λg w d ds Y lY hY=>?_);apply yc;refine ya ?_;refine yo ?_;apply kX;refine y9 [0,1] (λk zz=>(3,iv ((l.length:Int)-1-k))::zz) [] (λk zz=>(1000000,.yld k true)::zz) l.length (λk hk=>?_);refine gd ?_ ?_<;>intro xT
 ·have N:k<l.length:=aa
  have hu:l[((l.length:Int)-1-k).toNat]? =some (l.getD (l.length-1-k) 0):=by
   rw[show((l.length:Int)-1-k).toNat=l.length-1-k by omega,jB,lgg aa];rfl
  apply yf;apply ye;apply kX;apply yc;iterate 6 refine ya ?_
  refine bX hY rfl rfl rfl (bK _) rfl rfl (zkp N) rfl (λb=>?_);refine gd ?_ ?_<;>intro G
  ·refine bC ?_;refine⟨.inr rfl,_,b,rfl,λhb=>by simp_all⟩
  subst G;apply yf;apply yd;refine yo ?_;refine⟨k+1,yh,?_,?_⟩
  ·omega
  ·omega
 ·apply bH;refine⟨.inl rfl,k,true,rfl,λ_=>by rw[zqe];omega⟩
end
section
attribute [local irreducible] FnO It yA
def zcN(l:List Int):Fn prog 234 [yj l] (.fn 263 [.ept (λ_:Unit=>[.sl intE l]) () 0]):=by
 refine bB func234 ntmps234 (λg w d=>?_);apply yc;refine zax ?_;refine ya ?_;apply yp;refine yC ?_;refine bC ?_;refine yi (bG (k:=1) rfl rfl) ?_;refine gq ?_;all_goals exact zR
def zW(l:List Int)(hl:l.length<=4000000000):FnO prog 223 [yj l] [] [] (.own 5) [(5,.row intE l 3 1)]:=by
 refine bR [] func223 ntmps223 (λg w d vs=>?_);apply yc;refine yk ?_;apply ye;apply yc;refine ya ?_;refine Ex.eqNil rfl sl22 rfl (λb hb=>?_);refine gd ?_ ?_<;>intro N
 ·have G:=hb N;subst G;subst N;apply yc;refine yk ?_;refine bC ?_;refine zI (yz intE 3 1 2 5 rfl rfl) ?_;refine zm4.mk (ts:=[(2,.own 5)]) (.inr rfl) (yh) (.one (.tmp rfl (kZ rfl)))
 refine gq ?_;refine yH intE [] ?_;refine ya ?_;refine bF ?_;refine yk ?_;refine bC ?_;refine zm4.mk (ts:=[(2,.own 5)]) (.inr rfl) (yh) (.one (.tmp rfl (kZ rfl)))
def perfL(m:Mn):List Int:=([4,3,2,1]:List Int).filter λv=>decide (m.p v=3)
def zfk(m:Mn):List (List AV):=(perfL m).map λv=>[iv v]
def pcnt(m:Mn)(j:Nat):Nat:=((([4,3,2,1]:List Int).take j).filter λv=>decide (m.p v=3)).length
def mnL(m:Mn):List Int:=[m.Max,m.Mod,m.Tem,m.Pro]
def zuw(m:Mn)(j:Nat)(h:j<4):(mnL m).getD (4-1-j) 0=m.p (4-j):=by
 have:j=0\/j=1\/j=2\/j=3:=aa
 rcases this with rfl|rfl|rfl|rfl<;>rfl
def zrQ(m:Mn)(j:Nat)(h:j<4)(N:m.p (4-j)=3):(zfk m)[pcnt m j]? =some [iv (4-j)]/\pcnt m (j+1)=pcnt m j+1:=by
 have:j=0\/j=1\/j=2\/j=3:=aa
 rcases this with rfl|rfl|rfl|rfl<;>simp at N<;>simp[zfk,perfL,pcnt,uP,N]
 ·split<;>simp
 ·split<;>split<;>simp
 ·split<;>split<;>split<;>simp
def zux(m:Mn)(j:Nat)(h:j<4)(N:¬m.p (4-j)=3):pcnt m (j+1)=pcnt m j:=by
 have:j=0\/j=1\/j=2\/j=3:=aa
 rcases this with rfl|rfl|rfl|rfl<;>simp at N<;>simp[pcnt,uP,N]
def zrR(m:Mn):pcnt m 4=(zfk m).length:=by simp[zfk,perfL,pcnt]
def zdl(m:Mn):It prog 233 [.ept (λ_:Unit=>mnE m) () 0] (zfk m):=by
 refine zc1 func233 ntmps233 (λg w d ds Y lY hY=>?_);apply yc;refine zax ?_;apply yp;refine yH intE [] ?_;refine gq ?_;refine yH intE [_,_,_,_] ?_;refine bF ?_;refine yY (kY (k:=5) rfl) ?_;refine zbr [(5,16)] (zW (mnL m) (by simp[mnL])) rfl rfl rfl (bK _) rfl rfl trivial rfl rfl rfl rfl ?_;refine yY (kY (k:=16) rfl) ?_;refine Ex.call rfl rfl rfl (zcN (mnL m)) rfl ?_;refine gq ?_;refine bV (sl:=[2]) (λj=>([.ptr 2 0 0 0],[(2,.box [.yv lY] 198),(1000000,.yld (pcnt m j) true)])) (λj=>True) 900001 900002 rfl rfl ac (λj zs hj=>by obtain⟨_,rfl⟩:=zg4 hj;rfl) (zcf (mnL m) (by simp[mnL])) trivial rfl rfl ac (jG _) ah (λj zs hj=>by obtain⟨_,rfl⟩:=zg4 hj;rfl) (λ_=>rfl) rfl rfl (λl o us=>yh) (trivial) (λj zs hj hJ l ready busy rb vs g w hb v9=>?_) (λhJ=>?_)
 ·obtain⟨N,rfl⟩:=zg4 hj;have N:j<4:=N;have hv:(mnL m).getD ((mnL m).length-1-j) 0=m.p (4-j):=zuw m j N;have v8:(mnL m).length=4:=rfl;apply yc;refine yk ?_;apply yd;refine yk ?_;refine⟨rfl,rfl,?_⟩;apply kX;apply yc;iterate 3 refine ya ?_
  refine zsV (t:=22) true rfl (λG=>?_) (λG=>?_)
  ·refine zS ?_;(iterate 2 refine zS ?_);have xT:m.p (4-j)=3:=by rw[←hv];simpa using G
   obtain⟨x1,x0⟩:=zrQ m j N xT;refine zbT hY rfl rfl rfl (λ_=>⟨_,_,rfl,rfl,rfl,.cons (kZ (by congr 1;omega)) .nil,rfl,rfl,x1,λb=>?_⟩) (λh=>absurd (h.symm.trans G) ac);refine zS ?_;refine gd ?_ ?_<;>intro x2
   ·subst x2;refine bC ?_;refine⟨[.ptr 2 0 0 0],[(2,.box [.yv lY] 198),(1000000,.yld (pcnt m j) false)],yh,?_⟩;refine⟨.inr rfl,_,false,rfl,λhb=>by simp at hb⟩
   subst x2;apply yf;refine⟨[.ptr 2 0 0 0],[(2,.box [.yv lY] 198),(1000000,.yld (pcnt m (j+1)) true)],yh,rfl,trivial⟩
  ·refine zbc ?_;(iterate 4 refine zbc ?_);refine gd ?_ ?_<;>intro w2
   ·exact absurd w2 ac
   have xT:¬m.p (4-j)=3:=by rw[←hv];simpa using G
   have x0:=zux m j N xT;apply yf;refine⟨[.ptr 2 0 0 0],[(2,.box [.yv lY] 198),(1000000,.yld (pcnt m (j+1)) true)],yh,rfl,trivial⟩
 refine⟨.inl rfl,_,true,rfl,λ_=>zrR m⟩
def zel(m:Mn):Fn prog 199 [mnA m] (.fn 233 [.ept (λ_:Unit=>mnE m) () 0]):=by
 refine bB func199 ntmps199 (λg w d=>?_);apply yc;refine zl ?_;refine ya ?_;apply yp;refine yC ?_;refine bC ?_;refine yi (bG (k:=1) rfl rfl) ?_;refine gq ?_;all_goals exact zR
end
section
variable{j:Nat}{k v:Int}{zs:List AV}
attribute [local irreducible] FnO It yA
def Mn.ab(m:Mn)(v:Int):Int:=((perfL m).find? λk=>decide (k<v)).getD 0
def zcl{m:Mn}(h:(zfk m)[j]? =some zs):∃k,(perfL m)[j]? =some k/\zs=[iv k]:=by
 rw[zfk,j9]at h;cases hk:(perfL m)[j]? with
 |none=>simp[hk]at h
 |some k=>simp[hk]at h;exact⟨k,rfl,h.symm⟩
def zzE{m:Mn}(h:(perfL m)[j]? =some k)(hJ:∀i,i<j->∀k,(perfL m)[i]? =some k->¬k<v)(hk:k<v):m.ab v=k:=by
 unfold Mn.ab;generalize perfL m=l at h hJ
 induction l generalizing j with
 |nil=>simp at h
 |cons x r ih=>
  cases j with
  |zero=>simp at h;subst h;simp[hk]
  |succ j=>
   have hx:=hJ 0 aa x ah;simp only[List.find?_cons,w8,wB hx];exact ih (ao h) (λi hi k hk=>hJ (i+1) aa k (ao hk))
def zuy{m:Mn}(hJ:∀i,i<(perfL m).length->∀k,(perfL m)[i]? =some k->¬k<v):m.ab v=0:=by
 unfold Mn.ab;rw[List.find?_eq_none.2 (λx hx=>?_)]
 ·rfl
 ·obtain⟨i,hi⟩:=jL.1 hx;have:=hJ i (j5.1 hi).1 x hi;simpa using this
def zgi(m:Mn)(v:Int):Fn prog 185 [mnA m,iv v] (.tup [iv (if ckMV m v=0 then m.ab v else 0),iv (ckMV m v)]):=by
 refine bB func185 ntmps185 (λg w d=>?_);refine gq ?_;refine zax ?_;refine gc (zcz m v) ?_;refine gd ?_ ?_<;>intro G
 ·refine gq ?_;refine bJ (.many ac (.cons (.cellS rfl rfl rfl ty3 (kZ ?_)) (.cons (.cellS rfl rfl rfl ty29 (kZ ?_)) .nil)));all_goals(first|(simp_all;done))
 refine gc (zel m) ?_;refine bV (sl:=[3,4,5]) (λj=>([.ptr 3 0 0 0,.ptr 4 0 0 0,.ptr 5 0 0 0],[(3,.box [iv v] 3),(4,.box [iv 0] 3),(5,.box [iv 0] 29)])) (λj=>∀i,i<j->∀k,(perfL m)[i]? =some k->¬k<v) 900001 900002 rfl rfl ac (λj zs hj=>by obtain⟨k,_,rfl⟩:=zcl hj;rfl) (zdl m) trivial rfl rfl ac (jU _) ah (λj zs hj=>by obtain⟨k,_,rfl⟩:=zcl hj;rfl) (λ_=>rfl) rfl rfl (λl o us=>yh) (λi hi=>absurd hi (vU i)) (λj zs hj hJ l ready busy rb vs g w hb x2=>?_) (λhJ=>?_)
 ·obtain⟨k,hk,rfl⟩:=zcl hj;apply yd;refine yk ?_;refine⟨rfl,rfl,?_⟩;refine gd ?_ ?_<;>intro xT
  ·apply yc;refine ya ?_;(iterate 2 refine bF ?_);apply bD;refine bC ?_;refine⟨[.ptr 3 0 0 0,.ptr 4 0 0 0,.ptr 5 0 0 0],[(3,.box [iv v] 3),(4,.box [iv k] 3),(5,.box [iv 0] 29)],yh,?_⟩;refine bJ (.many ac (.cons (.cellS rfl rfl rfl ty3 (kZ ?_)) (.cons (.cellS rfl rfl rfl ty29 (kZ ?_)) .nil)));all_goals(first|(simp only[G,if_true];rw[zzE hk hJ xT];done)|(simp_all;done))
  apply yf;refine⟨[.ptr 3 0 0 0,.ptr 4 0 0 0,.ptr 5 0 0 0],[(3,.box [iv v] 3),(4,.box [iv 0] 3),(5,.box [iv 0] 29)],yh,rfl,λi hi k2 N=>by
 rcases uJ.1 hi with h|h
 ·exact hJ i h k2 N
 ·subst h;rw[hk]at N;injection N with N;subst N;omega⟩
 refine gq ?_;refine bJ (.many ac (.cons (.cellS rfl rfl rfl ty3 (kZ ?_)) (.cons (.cellS rfl rfl rfl ty29 (kZ ?_)) .nil)));all_goals(first|(simp only[G,if_true];rw[zuy (by simpa[zfk]using hJ)];done)|(simp_all;done))
end
section
attribute [local irreducible] FnO It yA
def zrS{a n:Int}(hn:0<n):(a.tmod n<0->a.tmod n+n=a%n)/\(¬a.tmod n<0->a.tmod n=a%n)/\-n<a.tmod n/\a.tmod n<n:=by
 rw[Int.tmod_eq_emod];have h0:=vH a (show n≠0 by omega);have h1:=uN a hn;split<;>omega
def mMk(n:Int):Mn:=⟨2+n%16/8,2+n%16/4%2,2+n%16/2%2,2+n%16%2⟩
attribute [local irreducible] gI mMk
def zbf(a n:Int)(ha:-9223372036854775808<=a/\a<=9223372036854775807)(hn:1<=n/\n<=4611686018427387904):Fn prog 9 [iv a,iv n] (iv (a%n)):=by
 obtain⟨N,G,xT,x2⟩:=zrS (a:=a) (n:=n) aa;refine bB func9 ntmps9 (λg w d=>?_);refine gd ?_ ?_<;>intro x1
 ·omega
 apply yf;apply yc;iterate 2 refine ya ?_
 refine yO (zxM rfl rfl aa) rfl ?_;refine gd ?_ ?_<;>intro x0
 ·refine gq ?_;all_goals(congr 1;exact N aa)
 ·refine gq ?_;all_goals(congr 1;exact G aa)
def zg5(n:Int)(hn:-9223372036854775808<=n/\n<=9223372036854775807):Fn prog 35 [iv n] (mnA (mMk n)):=by
 unfold mMk;refine bB func35 ntmps35 (λg w d=>?_);refine gc (zbf n 16 hn aa) ?_;refine bJ (.one (.cellA rfl rfl rfl rfl ty67 (kZ ?_)));all_goals exact zR
def zfl(n q:Int)(hn:0<=n/\n<=4611686018427387904)(hd:1<=q/\q<=4611686018427387904):Fn prog 8 [iv n,iv q] (tmA ⟨n/gI n q,q/gI n q⟩):=by
 refine bB func8 ntmps8 (λg w d=>?_);apply yc;refine yP ?_;apply yp;refine ya ?_;refine yo ?_;apply ye;apply kX;refine zag (ι:=Int×Int) [0,1,4] (λ(p:Int×Int)zz=>(5,iv p.1)::(6,iv p.2)::zz) [4] (λ(p:Int×Int)zz=>zz) (λ(p:Int×Int)=>0<=p.1/\0<=p.2/\gI p.1 p.2=gI n q/\(0<p.1\/0<p.2)) (λ(p:Int×Int)=>p.2.toNat) (n,q) (λp hk=>?_) (hJ:=by exact⟨am,am,rfl,am⟩);obtain⟨a,b⟩:=p;obtain⟨k1,k2,k3,k4⟩:=hk;dsimp only at*
 refine gd ?_ ?_<;>intro G
 ·refine gq ?_;refine yr ((b,a%b)) (hJ:=by exact⟨am,by dsimp only;exact vH _ aa,by dsimp only;rw[zo5 aa aa];exact k3,am⟩) (hm:=by dsimp only;have:=uN a (show 0<b by omega);omega)
 ·have N:b=0:=aa
  subst N;rw[zo4 k1]at k3;subst k3;have xT:=zg3 (n:=n) (d:=q) aa;refine gd ?_ ?_<;>intro x2
  ·omega
  refine gq ?_;refine y4 [20,21,22,23,24,25] [0,0,3,0,0,24,63,127] mo ?_;iterate 6 refine yb ?_
  refine yD ?_;refine gq ?_;refine bJ (.one (.cellA rfl rfl rfl rfl ty35 (kZ ?_)));all_goals rfl
end
end Go.Rse
namespace Go.Rse
open Go Go.RowKit Go.Proofs.Tryz
def kget{κ α:Type}[DecidableEq κ](q:κ)(l:List (κ×α)):Option α:=(kix q l 0).bind λi=>(l[i]?).map (·.2)
section
variable{P:Program}{C:Ctx}{st:St}{ty:TypeId}
variable{E:TypeId}{I:Im}{K:TypeId}{b:Nat}{c:AV}{ck:Nat}{cs:List AV}{e:Exit}{es:Array MapEntry}{fd:Bool}{k:Nat}{ok:Bool}{q:Int}{rv:List ResultVar}{t:TypeId}{v:Value}{vs:List Value}{w:World}{x y:Operand}{α ι:Type}{ρ:Nat->Value}{hs':ι->List (Nat×Blk)}{l:List (Int×α)}{r:ι->AV}{venc:α->AV}
def zgj{i:Value}(ht:P.underlying t=some (.map K E))(N:w.heap[b]? =some (.map es ck))(G:(Instr.checkKey es.isEmpty 10000 K i).run P w=.ok () w)
 (h:((Instr.findKey K i es.toList).run P w=.ok none w/\(zeroValue E).run P w=.ok v w/\fd=false)\/∃j,(Instr.findKey K i es.toList).run P w=.ok (some (j,v)) w/\fd=true):
 (Instr.lookup t (.map (some b)) i ok).run P w=.ok (if ok then .tuple #[v,.bool fd]else v) w:=by
 rcases h with⟨h1,h2,rfl⟩|⟨j,h1,rfl⟩<;>simp[Instr.lookup,run_underlying ht,MapKept.run_getObj_map N,G,h1,Result.andThen];simp[h2]
def zo7{x:AV}(h:RV I ρ x v):RV I ρ (bif ok then .tup [x,.bool fd]else x) (if ok then .tuple #[v,.bool fd]else v):=by
 cases ok
 ·exact h
 ·refine .tup _ [v,.bool fd] rfl λj c u N G=>?_
  rcases j with _|_|j
  ·simp_all
  ·simp at N G;subst N;subst G;exact .bool _
  ·simp at N
def zeP{κ:Type}[DecidableEq κ]{kenc:κ->AV}{kv:κ->Value}{l:List (κ×α)}{q:κ}(z0:α)(L:KeyL P K kenc kv)(hx:ev st x=some (.mp k))(hk:lk st.h k=some (.mpb kenc venc l))(hy:ev st y=some c)(hc:c=kenc q)
 (ht:P.underlying t=some (.map K E))(hf:∀v k,(venc v).fr k=true)(hz:∃z i,P.info? E=some i/\i.zero=some z/\∀I,RV I noNames (venc z0) z):
 Pur P C (.lookup t x y ok) ty st (bif ok then .tup [venc ((kget q l).getD z0),.bool (kget q l).isSome]else venc ((kget q l).getD z0)):=λg a w dst pos af gd hr=>by
 subst hc;obtain⟨b,es,ck,h1,h2,h3,h4,h5,h6⟩:=hr.sat.blk k _ hk
 have ex:a.eval x=.map (some b):=by
  obtain⟨b',e1,e2⟩:=zdc (yq hr hx);rw[e1,←e2,h1]
 have ey:a.eval y=kv q:=L.val _ _ _ _ (yq hr hy);obtain⟨z,i,hi,xT,x2⟩:=hz;have N:∀(j:Nat)e p,es.toList[j]? =some e->l[j]? =some p->e.key=kv p.1:=λj e p he hp=>L.val _ _ _ _ (h6 j e p (ao he) hp).1
 have G:=run_findKey_eq w L.wide (kv q) es.toList;rcases zjJ (P:=P) (w:=w) (q:=q) (L.eq w) l es.toList 0 (ao h5.1) N with⟨m1,m2⟩|⟨j,e,v,m1,m2,m3,m4⟩
 ·have e1:kget q l=none:=by simp[kget,m1]
  rw[m2]at G;rw[e1];refine⟨_,?_,zo7 (v:=z) ((x2 g.I).forget' (hf _))⟩;have:=zgj (P:=P) (w:=w) (ok:=ok) (v:=z) ht h4 (L.chk _ w q) (.inl ⟨G,by simp[zeroValue,typeInfo,hi,xT],rfl⟩);simp_all[execOp]
 ·simp only[u6]at m1 m2;have e1:kget q l=some v:=by simp[kget,m1,m4]
  rw[m2]at G;rw[e1];refine⟨_,?_,zo7 (v:=e.val) ((h6 j e (q,v) (ao m3) m4).2.forget' (hf _))⟩;have:=zgj (P:=P) (w:=w) (ok:=ok) (v:=e.val) ht h4 (L.chk _ w q) (.inr ⟨j,G,rfl⟩);simp_all[execOp]
def zg6(z0:α)(hx:ev st x=some (.mp k))(hk:lk st.h k=some (.mpb (λi:Int=>.int .i64 i) venc l))(hy:ev st y=some (.int .i64 q))
 (ht:P.underlying t=some (.map K E))(hd:P.underlying K=some (.int .i64))(hf:∀v k,(venc v).fr k=true)(hz:∃z i,P.info? E=some i/\i.zero=some z/\∀I,RV I noNames (venc z0) z):
 Pur P C (.lookup t x y false) ty st (venc ((mget q l).getD z0)):=λg a w dst pos af gd hr=>by
 obtain⟨b,es,ck,h1,h2,h3,h4,h5,h6⟩:=hr.sat.blk k _ hk
 have ex:a.eval x=.map (some b):=by
  obtain⟨b',e1,e2⟩:=zdc (yq hr hx);rw[e1,←e2,h1]
 have ey:=yK (yq hr hy);obtain⟨z,i,hi,xT,x2⟩:=hz;have N:∀(j:Nat)e p,es.toList[j]? =some e->l[j]? =some p->e.key=.int .i64 p.1:=λj e p he hp=>yK (h6 j e p (ao he) hp).1
 have G:=MapKept.run_checkKey (P:=P) (w:=w) hd (show MapKept.IsKey (.int .i64) (.int .i64 q)from rfl) es.isEmpty 9999;rcases zeF (q:=q) (d:=.i64) l es.toList 0 (ao h5.1) N with⟨m1,m2⟩|⟨j,e,v,m1,m2,m3,m4⟩
 ·have e1:(mget q l).getD z0=z0:=by simp[mget,m1]
  rw[e1];refine⟨z,?_,(x2 g.I).forget' (hf _)⟩;have:=zgj (P:=P) (w:=w) (ok:=false) (v:=z) ht h4 G (.inl ⟨MapKept.run_findKey hd m2,by simp[zeroValue,typeInfo,hi,xT],rfl⟩);simp_all[execOp]
 ·simp only[u6]at m1 m2;have e1:(mget q l).getD z0=v:=by simp[mget,m1]
  rw[e1];refine⟨e.val,?_,(h6 j e (q,v) (ao m3) m4).2.forget' (hf _)⟩;have:=zgj (P:=P) (w:=w) (ok:=false) (v:=e.val) ht h4 G (.inr ⟨j,MapKept.run_findKey hd m2,rfl⟩);simp_all[execOp]
def zm3.mk(i:ι)(ts:List (Nat×AV))(ex:List (Nat×Blk))(he:e=.normal\/e=.ret)(hi:Imp C st ⟨ts,(kN,.hold vs cs)::(hs' i++ex)⟩)(hr:RetVs P ⟨ts,(kN,.hold vs cs)::(hs' i++ex)⟩ rv (r i)):zm3 P C rv r vs cs hs' e st:=⟨he,i,ts,ex,hi,hr⟩
def zeQ{st st':St}(hi:Imp C st st')(h:zm3 P C rv r vs cs hs' e st'):zm3 P C rv r vs cs hs' e st:=by
 obtain⟨h1,i,ts,ex,N,G⟩:=h;exact⟨h1,i,ts,ex,hi.trans N,G⟩
end
end Go.Rse
namespace Go.Rse
open Go Go.Proofs Go.Proofs.Tryz
variable{C:Ctx}{cs:List AV}{st:St}{v:Int}{α:Type}
def zmG(enc:α->List AV)(E s b k E0 j:Nat)(ht:lk st.h b=some (.box cs E0))(hc:cs[j]? =some .nils)(hf:st.fr k=true):Imp C st {t:=st.t,h:=(b,.box (cs.set j (.own k)) E0)::(k,.row enc [] E s)::st.h}:=λg a w hr=>by
 have G:b≠k:=λe=>by
  subst e;simp[St.fr]at hf;exact(zb9 hf.2 ht).2 rfl
 have ha:Add (some k) g w {ρ:=λn=>if n=k then .slice none 0 0 else g.ρ n,I:=g.I,O:=g.O} w:=⟨bS _,λn hn=>by
  have:n≠k:=λe=>hn (by rw[e])
  simp[this],λ_ _=>rfl,Grow.refl w⟩
 have h1:=hr.add (d:=none) (x:=.any) (v:=.nilIface) ha (λn hn=>by injection hn with hn;subst hn;exact hf) (λt h=>by simp at h) (.any _) hr.sat.im hr.sat.ob;have h2:=h1.withBlk (k:=k) (B:=.row enc [] E s) ⟨[],⟨ah,.inl ⟨ah,rfl⟩⟩,λi x h=>by simp at h,λi x j c v h=>by simp at h,λb hb=>by simp[yT]at hb⟩;obtain⟨b1,vs,e1,e2,e3,e4,e5,e6⟩:=h2.sat.blk b _ (show lk ((k,Blk.row enc [] E s)::st.h) b=_ by simp only[ym,beqF.2 (λe=>G e.symm),cond_false];exact ht);refine⟨_,h2.withBlk (k:=b) (B:=.box (cs.set j (.own k)) E0) ⟨b1,vs,e1,e2,e3,e4,by rw[e5,xW],λi c v N hv=>?_⟩⟩;rw[vF]at N;split at N
 ·rename_i e;subst e;split at N
  ·injection N with N;subst N;rw[zbG (e6 j .nils v hc hv)];exact .own k none 0 0 ah
  ·cases N
 ·exact e6 i c v N hv
structure Mkr where
 m:Mn
 p:Int
 d:Bool
def mkrE(nm:ByteArray)(k:Nat)(x:Mkr):List AV:=[.str nm,.own k,iv x.m.Max,iv x.m.Mod,iv x.m.Tem,iv x.m.Pro,iv x.p,.bool false,.bool x.d]
def ntR(v p:Int):Sg:=⟨1,v,p,0,false,0,false,false,⟨0,0,0,0⟩,false,0,0,0,0⟩
def rtR(v:Int):Sg:=⟨2,v,0,0,false,0,false,false,⟨0,0,0,0⟩,false,0,0,0,0⟩
def dtR:Sg:=⟨3,0,0,0,false,0,false,false,⟨0,0,0,0⟩,false,0,0,0,0⟩
def cfS(v l:Int):Sg:=⟨7,0,0,0,false,0,false,false,⟨0,0,0,0⟩,false,0,0,v,l⟩
def mnS(m:Mn)(b:Bool):Sg:=⟨5,0,0,0,false,0,false,false,m,b,0,0,0,0⟩
def stP(p n:Int):Int:=if p+n%5-2< -4\/12<p+n%5-2 then 4 else p+n%5-2
def zgk(p n:Int):-4<=stP p n/\stP p n<=12:=by unfold stP;split<;>omega
def BdS(s:Sg):Prop:=(∃v p,s=ntR v p/\3<=v/\v<=6/\-4<=p/\p<=12)\/(∃v,s=rtR v/\3<=v/\v<=6)
def UnT(n:Nat):Type:={q:Int×List Sg//(-4<=q.1/\q.1<=12)/\q.2.length<=n/\∀s∈q.2,BdS s}
def BdS.n{p:Int}(h:3<=v/\v<=6)(N:-4<=p/\p<=12):BdS (ntR v p):=.inl ⟨v,p,rfl,h.1,h.2,N.1,N.2⟩
def BdS.t(h:3<=v/\v<=6):BdS (rtR v):=.inr ⟨v,rfl,h.1,h.2⟩
def gP(p n:Int):Int:=if n%7=0 then p else stP p n
def gS(p v n:Int):Sg:=if n%7=0 then rtR v else ntR v (stP p n)
def zHN{p n:Int}(h:-4<=p/\p<=12):-4<=gP p n/\gP p n<=12:=by
 unfold gP;split
 ·exact h
 ·exact zgk _ _
def zHO{p n:Int}(h:3<=v/\v<=6):BdS (gS p v n):=by
 unfold gS;split
 ·exact BdS.t h
 ·exact BdS.n h (zgk _ _)
attribute [local irreducible] Pur yy yu Ex X Fn FnE Imp LeV LeB FnO It yA stP gP gS
set_option maxRecDepth 9999 in
def yL(nm:ByteArray)(x:Mkr)(L:List Sg)(G:L.length<=1000)(s:Sg)(b:Bool):FnO prog 17 [.ptr 2000000 0 0 0,sgA s,.bool b] [(2000000,.box (mkrE nm 2000001 x) 81),(2000001,.row sgE (L) 69 17)] [2000000] (.tup []) [(2000000,.box (mkrE nm 2000002 ⟨x.m,x.p,b⟩) 81),(2000002,.row sgE (L++[s]) 69 17)]:=by
 refine bR [.ptr 2000000 0 0 0] func17 ntmps17 (λg w d vs=>?_);apply yc;refine zl ?_;apply bD;apply ye;refine zY [⟨0,6,.ptr 2000000 0 0 0,[]⟩,⟨1,7,.ptr 2000000 0 0 0,[]⟩,⟨2,8,.ptr 2000000 0 0 0,[1]⟩,⟨3,9,.ptr 2000000 0 0 0,[1,2]⟩,⟨4,10,.ptr 2000000 0 0 1,[1,2,3]⟩,⟨6,12,sgA s,[]⟩,⟨7,13,sgsA [s],[6]⟩,⟨9,15,.ptr 2000000 0 0 0,[8,7,6,5,4,3,2,1,0]⟩,⟨10,16,.ptr 2000000 0 0 0,[8,7,6,5,4,3,2,1,0,9]⟩,⟨11,17,.ptr 2000000 0 0 1,[9,8,7,6,5,4,3,2,1,0,10]⟩] [(5,[1,2,3,4]),(8,[1,2,3,6,4,7,5]),(12,[9,10,7,6,5,4,3,2,1,0,8,11])] (let T:=[(0,.ptr 2000000 0 0 0),(2,.bool b),(4,.ptr 4 0 0 0)];let H:=[(1000001,.hold vs [.ptr 2000000 0 0 0]),(4,.box (sgE s) 69)];λj=>match j with|0=>⟨T,(2000000,.box (mkrE nm 2000001 x) 81)::(2000001,.row sgE (L) 69 17)::H⟩|1=>⟨(11,.own 2000001)::T,(2000000,.box (mkrE nm 2000001 x) 81)::(2000001,.row sgE (L) 69 17)::H⟩|2=>⟨(14,.own 2000001)::T,(2000000,.box [.str nm,.any,iv x.m.Max,iv x.m.Mod,iv x.m.Tem,iv x.m.Pro,iv x.p,.bool false,.bool x.d] 81)::(2000001,.row sgE (L++[s]) 69 17)::H⟩|_=>⟨T,(2000000,.box (mkrE nm 2000001 x) 81)::(2000001,.row sgE (L++[s]) 69 17)::H⟩) mo (zP (yh)) (λj N=>?_) ⟨λβ=>Co2 rfl (yW (bA yU) rfl rfl),λβ=>Co2 rfl (zaw (l2:=[s]) rfl rfl rfl sl24 ti69 ac ac (λ_=>rfl) (λ_=>rfl) (by simp only[w5,uM];omega) rfl),λβ=>Co2 rfl (zX rfl rfl rfl rfl TyK.h ah),trivial⟩ ?_
 ·rcases j with _|_|_|_|j
  ·(iterate 2 refine⟨.inr ⟨_,rfl,rfl,rfl,rfl,bA yU⟩,?_⟩);refine⟨.inr ⟨_,rfl,rfl,rfl,rfl,bA (yg rfl)⟩,?_⟩;(iterate 2 refine⟨.inr ⟨_,rfl,rfl,rfl,rfl,bA (zbK rfl rfl)⟩,?_⟩);refine⟨.inr ⟨_,rfl,rfl,rfl,rfl,bA yU⟩,?_⟩;refine⟨.inr ⟨_,rfl,rfl,rfl,rfl,zu (enc:=sgE) (l:=[s]) sl24 ty69 ze69 ac rfl rfl rfl rfl ac ac (λ_=>rfl) rfl⟩,?_⟩;exact yE
  ·refine⟨.inr ⟨_,rfl,rfl,rfl,rfl,bA yU⟩,?_⟩;(iterate 4 refine⟨.inl rfl,?_⟩);refine⟨.inr ⟨_,rfl,rfl,rfl,rfl,bA yU⟩,?_⟩;refine⟨.inr ⟨_,rfl,rfl,rfl,rfl,zu (enc:=sgE) (l:=[s]) sl24 ty69 ze69 ac rfl rfl rfl rfl ac ac (λ_=>rfl) rfl⟩,?_⟩;exact yE
  ·exact yE
  ·exact yE
  ·exact absurd (show j+4<=3 from N) aa
 apply yd;iterate 2 refine ya ?_
 refine ya ?_ (hs:=by exact yg rfl);refine ya ?_;refine bF ?_;apply bD;refine zI (bY 2000001 2000002 rfl rfl) ?_;refine zm4.mk (ts:=[]) (.inl rfl) (kW) (.many ac .nil)
def zv(nm:ByteArray)(x:Mkr)(L:List Sg)(n:Int)(hn:-9223372036854775808<=n/\n<=9223372036854775807)(hp:-4<=x.p/\x.p<=12):FnO prog 19 [.ptr 2000000 0 0 0,iv n] [(2000000,.box (mkrE nm 2000001 x) 81),(2000001,.row sgE (L) 69 17)] [2000000,2000001] (iv (stP x.p n)) [(2000000,.box (mkrE nm 2000001 ⟨x.m,stP x.p n,x.d⟩) 81),(2000001,.row sgE (L) 69 17)]:=by
 refine bR [.ptr 2000000 0 0 0,.own 2000001] func19 ntmps19 (λg w d vs=>?_);refine gq ?_;refine y4 [5,6,7,8,9,10,11,12,13] [0,0,2,6,14,0,32,126,254,511,1023,2047] mo ?_;iterate 2 refine yb ?_
 refine yb ?_ (hs:=by exact yg rfl);iterate 3 refine yb ?_
 refine yI (zbf n 5 hn aa) ?_;iterate 2 refine yb ?_
 refine yD ?_;refine ya ?_ (hs:=by exact yg rfl);refine ya ?_;refine bF ?_;apply bD;apply ye;apply yc;refine ya ?_;refine ya ?_ (hs:=by exact yg rfl);iterate 3 refine ya ?_
 refine bI 5 ?_;refine yw ?_;refine bE ?_;refine bE ?_ (hs:=by intro xT;exact yg rfl);iterate 3 refine bE ?_
 refine gf ?_ ?_<;>intro x2
 ·have N:stP x.p n=4:=by unfold stP;exact j7 aa
  have G:mkrE nm 2000001 ⟨x.m,4,x.d⟩=mkrE nm 2000001 ⟨x.m,stP x.p n,x.d⟩:=by rw[N]
  apply yd;refine ya ?_;refine ya ?_ (hs:=by exact yg rfl);refine ya ?_;refine bF ?_;apply yp;refine ya ?_;refine ya ?_ (hs:=by exact yg rfl);refine yo ?_;refine bC ?_;refine zm4.mk (ts:=[(4,iv (stP x.p n))]) (.inr rfl) (kW) (.one (.tmp rfl (kZ rfl)))
 ·have N:stP x.p n=x.p+n%5-2:=by unfold stP;exact j8 aa
  have G:mkrE nm 2000001 ⟨x.m,x.p+n%5-2,x.d⟩=mkrE nm 2000001 ⟨x.m,stP x.p n,x.d⟩:=by rw[N]
  apply yf;apply yc;refine ya ?_;refine ya ?_ (hs:=by exact yg rfl);refine yo ?_;refine bC ?_;refine zm4.mk (ts:=[(4,iv (stP x.p n))]) (.inr rfl) (kW) (.one (.tmp rfl (kZ rfl)))
def zdI(nm:ByteArray)(x:Mkr)(L:List Sg)(hL:L.length<=900)(N:-4<=x.p/\x.p<=12)(v n:Int)(hv:3<=v/\v<=4)(hn:0<=n/\n<=10000000)(wh:Bool):FnE prog 36 [.ptr 2000000 0 0 0,iv v,iv n,.bool wh] [(2000000,.box (mkrE nm 2000001 x) 81),(2000001,.row sgE (L) 69 17)] [2000000] (ι:=UnT 2) (λq=>.tup []) (λq=>[(2000000,.box (mkrE nm 2000003 ⟨x.m,q.1.1,false⟩) 81),(2000003,.row sgE (L++q.1.2) 69 17)]):=by
 refine bU [.ptr 2000000 0 0 0] func36 ntmps36 (λg w d vs=>?_);apply kX;apply yc;refine ya ?_;refine bI 1 ?_;refine yw ?_;iterate 3 refine bE ?_
 refine gf ?_ ?_<;>intro xT
 ·refine gq ?_;refine y0 [(2000000,2000000),(2000001,2000001)] (zv nm x L n aa N) ?_;refine gq ?_;refine y0 [(2000000,2000000),(2000001,2000001),(2000002,2000002)] (yL nm ⟨x.m,stP x.p n,x.d⟩ L (by first|omega|(simp;omega)) (ntR (v+1) (stP x.p n)) false) ?_;apply bD;refine zeQ (bY 2000002 2000003 rfl rfl) ?_;refine zm3.mk (⟨(stP x.p n,[ntR (v+1) (stP x.p n)]),zgk _ _,ah,λs hs=>by rw[w6.1 hs];exact BdS.n aa (zgk _ _)⟩) [] [] (.inl rfl) (kW) (.many ac .nil)
 ·refine gd ?_ ?_<;>intro x2
  ·refine gq ?_;refine y0 [(2000000,2000000),(2000001,2000001),(2000002,2000002)] (yL nm x L (by first|omega|(simp;omega)) (rtR (v+1)) false) ?_;apply bD;refine zeQ (bY 2000002 2000003 rfl rfl) ?_;refine zm3.mk (⟨(x.p,[rtR (v+1)]),N,ah,λs hs=>by rw[w6.1 hs];exact BdS.t aa⟩) [] [] (.inl rfl) (kW) (.many ac .nil)
  ·have G:(L++[ntR (v+2) (stP x.p n)])++[ntR (v+2) (stP (stP x.p n) (n/5))]=L++[ntR (v+2) (stP x.p n),ntR (v+2) (stP (stP x.p n) (n/5))]:=ah
   refine gq ?_;refine y0 [(2000000,2000000),(2000001,2000001)] (zv nm x L n aa N) ?_;refine gq ?_;refine y0 [(2000000,2000000),(2000001,2000001),(2000002,2000002)] (yL nm ⟨x.m,stP x.p n,x.d⟩ L (by first|omega|(simp;omega)) (ntR (v+2) (stP x.p n)) false) ?_;refine gq ?_;refine y0 [(2000000,2000000),(2000001,2000002)] (zv nm ⟨x.m,stP x.p n,false⟩ (L++[ntR (v+2) (stP x.p n)]) (n/5) aa (zgk _ _)) ?_;refine gq ?_;refine y0 [(2000000,2000000),(2000001,2000002),(2000002,2000003)] (yL nm ⟨x.m,stP (stP x.p n) (n/5),false⟩ (L++[ntR (v+2) (stP x.p n)]) (by first|omega|(simp;omega)) (ntR (v+2) (stP (stP x.p n) (n/5))) false) ?_;apply bD;refine zm3.mk (⟨(stP (stP x.p n) (n/5),[ntR (v+2) (stP x.p n),ntR (v+2) (stP (stP x.p n) (n/5))]),zgk _ _,ah,λs hs=>by
 simp only[jW,List.not_mem_nil,or_false]at hs;rcases hs with e|e<;>rw[e]<;>exact BdS.n aa (zgk _ _)⟩) [] [] (.inl rfl) (kW) (.many ac .nil)
def zbo(nm:ByteArray)(x:Mkr)(L:List Sg)(hL:L.length<=500)(hp:-4<=x.p/\x.p<=12)(v n:Int)(hv:3<=v/\v<=4)(hn:0<=n/\n<=1048576):FnE prog 18 [.ptr 2000000 0 0 0,iv v,iv n] [(2000000,.box (mkrE nm 2000001 x) 81),(2000001,.row sgE (L) 69 17)] [2000000] (ι:=UnT 11) (λq=>.tup []) (λq=>[(2000000,.box (mkrE nm 2000005 ⟨x.m,q.1.1,false⟩) 81),(2000005,.row sgE (L++q.1.2) 69 17)]):=by
 refine bU [.ptr 2000000 0 0 0] func18 ntmps18 (λg w d vs=>?_);refine zbm ⟨[(0,.ptr 2000000 0 0 0),(1,iv v),(2,iv n)],[(1000001,.hold vs [.ptr 2000000 0 0 0]),(2000000,.box (mkrE nm 2000002 ⟨x.m,gP x.p n,false⟩) 81),(2000002,.row sgE ((L++[gS x.p v n])) 69 17)]⟩ (λx1=>?_) ?_
 ·refine gd ?_ ?_<;>intro G
  ·have xT:mkrE nm 2000002 ⟨x.m,x.p,false⟩=mkrE nm 2000002 ⟨x.m,gP x.p n,false⟩:=by unfold gP;rw[j7 G]
   have x2:L++[rtR v]=(L++[gS x.p v n]):=by unfold gS;rw[j7 G]
   have N:=yL nm x L aa (rtR v) false;rw[xT,x2]at N;refine gq ?_;refine y0 [(2000000,2000000),(2000001,2000001),(2000002,2000002)] N ?_;apply bD;exact yl kW x1
  ·have xT:mkrE nm 2000002 ⟨x.m,stP x.p n,false⟩=mkrE nm 2000002 ⟨x.m,gP x.p n,false⟩:=by unfold gP;rw[j8 G]
   have x2:L++[ntR v (stP x.p n)]=(L++[gS x.p v n]):=by unfold gS;rw[j8 G]
   have N:=yL nm ⟨x.m,stP x.p n,x.d⟩ L aa (ntR v (stP x.p n)) false;rw[xT,x2]at N;refine gq ?_;refine y0 [(2000000,2000000),(2000001,2000001)] (zv nm x L n aa hp) ?_;refine gq ?_;refine y0 [(2000000,2000000),(2000001,2000001),(2000002,2000002)] N ?_;apply bD;exact yl kW x1
 apply ye;refine yl (bY 2000002 2000005 rfl rfl) ?_;apply yd;iterate 4 refine ya ?_
 apply yp;refine yk ?_;apply kX;have v5:(L++[gS x.p v n])=(L++[gS x.p v n])++[]:=(wQ _).symm;refine zag (ι:=Nat×Int×List Sg) [0,1,2,6] (λ(z:Nat×Int×List Sg)zz=>(7,iv (z.1:Int))::zz) [1000001] (λ(z:Nat×Int×List Sg)zz=>(2000000,.box (mkrE nm 2000005 ⟨x.m,z.2.1,false⟩) 81)::(2000005,.row sgE ((L++[gS x.p v n])++z.2.2) 69 17)::zz) (λ(z:Nat×Int×List Sg)=>((z.1:Int)<=n/7%6)/\(-4<=z.2.1/\z.2.1<=12)/\z.2.2.length<=2*z.1/\∀s∈z.2.2,BdS s) (λ(z:Nat×Int×List Sg)=>6-z.1) (0,gP x.p n,[]) (λz hk=>?_) (hJ:=by exact⟨am,zHN hp,ah,ah⟩);obtain⟨k,p,S⟩:=z;dsimp only at*
 obtain⟨v4,x0,v3,w2⟩:=hk;refine gd ?_ ?_<;>intro v2
 ·have v1:0<=(k:Int)*(k:Int)/\(k:Int)*(k:Int)<=36:=⟨uU aa aa,by
   calc(k:Int)*(k:Int)<=6*6:=xF aa aa aa aa
    _=36:=rfl⟩
  apply yf;apply ye;apply kX;apply yd;iterate 12 refine ya ?_
  refine zaB [(2000000,2000000),(2000001,2000005),(2000003,2000006)] (zdI nm ⟨x.m,p,false⟩ ((L++[gS x.p v n])++S) (by simp only[jJ,w5,uM];omega) x0 v (n/42+(k:Int)*(k:Int)) hv ⟨aa,aa⟩ _) (λq=>?_);have v9:=u4 (L++[gS x.p v n]) S q.1.2;apply bD;refine yl (st':=⟨[(0,.ptr 2000000 0 0 0),(1,iv v),(2,iv n),(6,iv (n/7%6)),(7,iv (k:Int))],[(1000001,.hold vs [.ptr 2000000 0 0 0]),(2000000,.box (mkrE nm 2000006 ⟨x.m,q.1.1,false⟩) 81),(2000006,.row sgE (((L++[gS x.p v n])++S)++q.1.2) 69 17)]⟩) kW ?_;refine yl (bY 2000006 2000005 rfl rfl) ?_;refine gq ?_;refine yr ((k+1,q.1.1,S++q.1.2)) (hJ:=by exact⟨am,q.2.1,by dsimp only;have:=q.2.2.1;rw[jJ];omega,λs hs=>(w9.1 hs).elim (w2 s) (q.2.2.2 s)⟩) (hm:=by(dsimp only;omega)) (hI:=kW)
 ·have v8:(L++[gS x.p v n])++S=L++(gS x.p v n::S):=ah
  apply bH;refine zm3.mk (⟨(p,gS x.p v n::S),x0,by simp only[w5];omega,λs hs=>by
 rcases jW.1 hs with e|e
 ·rw[e];exact zHO aa
 ·exact w2 s e⟩) [] [] (.inl rfl) (kW) (.many ac .nil)
end Go.Rse
namespace Go.Rse
open Go Go.RowKit Go.Proofs.Tryz
def u8E:Int->List AV:=λn=>[.int .u8 n]
section
variable{P:Program}{C:Ctx}{st:St}{ty:TypeId}
variable{l:List Int}{x:Operand}
def znN{src dst e:TypeId}(hx:ev st x=some (.sl u8E l))(hs:P.underlying src=some (.slice e))(he:P.underlying e=some (.int .u8))(hd:P.underlying dst=some .string)(N:l≠[]):Pur P C (.convert src dst x) ty st (.str (strOfNums l)):=λg a w ds pos af gd hr=>by
 obtain⟨A,b,o,s,c,vs,ex,hA,hc,hm,h1,h2,h3⟩:=zcF (yq hr hx)
 have G:s=1:=by
  cases l with
  |nil=>exact absurd rfl N
  |cons p r=>exact(h1 0 p rfl).symm
 subst G;refine⟨.string (strOfNums l),?_,.str _⟩;rw[hA N]at ex
 have h:=run_convert_bytes_arg (P:=P) w src e hs he b o l.length c l rfl (λi hi=>by
  have hp:l[i]? =some l[i]:=lgg hi;have q:=hr.sat.im _ _ _ (h2 i l[i] 0 hp ac);have hv:=h3 i l[i] 0 _ hp rfl;have e1:=yK hv;rw[Nat.mul_one,uX]at q;rw[q.1,e1,jB,hp];rfl) dst hd
 simp[execOp,ex,h]
end
end Go.Rse
namespace Go.Rse
open Go Go.Proofs Go.Proofs.Tryz
section
def nmB:ByteArray:=strOfNums [97+(0:Int)/16%20]
def bgM:Mkr:=⟨mMk 0,4,false⟩
def bgS:Bool:=decide ((0:Int)/960%3=0)
def RdM(m:Mn):Prop:=m=⟨2,2,2,2⟩\/m=⟨2,2,3,2⟩\/m=⟨2,2,2,3⟩
inductive RdT:List Sg->Bool->Prop
 |zz:RdT [] false
 |nn{T:List Sg}{d:Bool}(v p:Int)(b:Bool):RdT T d->3<=v/\v<=6->-4<=p/\p<=12->RdT (T++[ntR v p]) b
 |rr{T:List Sg}{d:Bool}(v:Int):RdT T d->3<=v/\v<=6->RdT (T++[rtR v]) false
 |dd{T:List Sg}:RdT T true->RdT (T++[dtR]) false
def RdT.app:∀{S T:List Sg}{d:Bool},RdT T d->(∀s∈S,BdS s)->RdT (T++S) false
 |[],T,d,h,_=>by grind[RdT]
 |s::S,T,d,h,hs=>by
  have h1:RdT (T++[s]) false:=by
   rcases hs s ah with⟨v,p,rfl,a,b,c,e⟩|⟨v,rfl,a,b⟩
   ·exact .nn v p false h ⟨a,b⟩ ⟨c,e⟩
   ·exact .rr v h ⟨a,b⟩
  have N:=RdT.app h1 λx hx=>hs x (wA _ hx)
  simp_all
def RdP(z:List Sg):Prop:=z=[cfS 0 3]\/∃m b T d,z=cfS 0 3::mnS m b::T/\RdM m/\RdT T d/\T.length<=55
structure RdJ(k:Nat)(x:Mkr)(S:List Sg):Prop where
 p:-4<=x.p/\x.p<=12
 l:S.length<=2+11*k
 s:(k=0/\S=[cfS 0 3])\/(1<=k/\∃b T,S=cfS 0 3::mnS x.m b::T/\RdM x.m/\RdT T x.d/\T.length<=11*(k-1))
def mG(n:Int):Mn:=([⟨2,2,2,2⟩,⟨2,2,3,2⟩,⟨2,2,2,3⟩]:List Mn).getD (n%3).toNat default
def zHP(n:Int):RdM (mG n):=by
 grind[mG,RdM]
def RdJ.e{k:Nat}{x:Mkr}{S:List Sg}(h:RdJ k x S)(hk:k<=6):RdP S:=by
 rcases h.s with⟨_,e⟩|⟨_,b,T,e,h1,N,G⟩
 ·exact .inl e
 ·exact .inr ⟨x.m,b,T,x.d,e,h1,N,aa⟩
theorem RdJ.a{k:Nat}{x:Mkr}{S U:List Sg}{p:Int}{d:Bool}(h:RdJ k x S)(hk:1<=k)(N:-4<=p/\p<=12)(hl:U.length<=11)(G:∀T,RdT T x.d->RdT (T++U) d):RdJ (k+1) ⟨x.m,p,d⟩ (S++U):=by
 grind[RdJ]
attribute [local irreducible] Pur yy yu Ex X Fn FnE Imp LeV LeB FnO It yA stP gP gS mMk strOfNums
def zgl:FnO prog 16 [iv 0] [] [] (.ptr 7 0 0 0) [(7,.box (mkrE nmB 2000003 bgM) 81),(2000003,.row sgE [cfS 0 3,mnS (mMk 0) bgS] 69 17)]:=by
 have N:([0,4,3]:List Int)[((0:Int)/320%3).toNat]? =some 0:=rfl;have G:([0,4,3]:List Int).length=3:=rfl;refine bR [] func16 ntmps16 (λg w d vs=>?_);refine gq ?_;refine zf (zg5 0 aa) ?_;refine ya ?_;refine zl ?_;refine ya ?_;apply yp;iterate 5 refine ya ?_
 refine yO (zcn rfl Tryz.underlying5 us3 ac) rfl ?_;refine bP (zu (enc:=u8E) (l:=[97+(0:Int)/16%20]) zFC ty5 ze5 ac rfl rfl rfl rfl ac ac (λ_=>rfl) rfl) rfl rfl ?_;refine yO (x:=.str nmB) (znN (l:=[97+(0:Int)/16%20]) rfl Tryz.underlying121 Tryz.underlying5 Tryz.underlying9 ah) rfl ?_;refine ya ?_ (hs:=by exact yg rfl);iterate 2 refine ya ?_
 refine bF ?_;apply bD;apply ye;refine yl (zmG sgE 69 17 7 30 81 1 rfl rfl rfl) ?_;refine yl (st':=⟨[(0,iv 0),(3,.ptr 7 0 0 0)],[(1000001,.hold vs []),(7,.box (mkrE nmB 30 bgM) 81),(30,.row sgE [] 69 17)]⟩) kW ?_;refine gq ?_;refine yH intE [0,4,3] ?_;refine gq ?_;refine y0 [(2000000,7),(2000001,30),(2000002,31)] (yL nmB bgM [] ah (cfS 0 3) false) ?_;apply yp;iterate 2 refine ya ?_
 refine ya ?_ (hs:=by exact yg rfl);refine gq ?_;refine y0 [(2000000,7),(2000001,31),(2000002,2000003)] (yL nmB bgM [cfS 0 3] ah (mnS (mMk 0) bgS) false) ?_;apply yp;refine yC ?_;refine bC ?_;refine zm4.mk (ts:=[(2,.ptr 7 0 0 0)]) (.inr rfl) (kW) (.one (.tmp rfl (kZ rfl)))
def zbY(l:List Int)(hl:l.length<=6)(hr:∀a∈l,-9223372036854775808<=a/\a<=9223372036854775807):FnE prog 5 [yj l] [] [] (ι:={z:List Sg//RdP z}) (λz=>.agg [.str nmB,sgsA z.1]) (λz=>[]):=by
 refine bU [] func5 ntmps5 (λg w d vs=>?_);refine gq ?_;refine y0 [(7,40),(2000003,41)] zgl ?_;refine ya ?_;apply yp;iterate 2 refine ya ?_
 refine ya ?_ (hs:=by exact yg rfl);refine gq ?_;refine yX (zjB rfl rfl rfl sl24 ty69 aa ah rfl) ?_;refine ya ?_ (hs:=by exact yg rfl);iterate 2 refine ya ?_
 refine bF ?_;apply bD;iterate 2 apply ye
 refine yl (st':=⟨[(0,yj l),(2,.ptr 2 0 0 0),(3,.ptr 40 0 0 0)],[(1000001,.hold vs []),(2,.box [.str ⟨#[]⟩,.nils] 26),(40,.box (mkrE nmB 41 bgM) 81),(41,.row sgE ([cfS 0 3]) 69 17)]⟩) kW ?_;apply yd;refine yk ?_;apply kX;refine zag (ι:=Nat×Mkr×List Sg) [0,2,3] (λ(q:Nat×Mkr×List Sg)zz=>(4,iv (q.1:Int))::zz) [1000001,2] (λ(q:Nat×Mkr×List Sg)zz=>(40,.box (mkrE nmB 41 q.2.1) 81)::(41,.row sgE (q.2.2) 69 17)::zz) (λ(q:Nat×Mkr×List Sg)=>q.1<=l.length/\RdJ q.1 q.2.1 q.2.2) (λ(q:Nat×Mkr×List Sg)=>l.length-q.1) (0,bgM,[cfS 0 3]) (λq hk=>?_) (hJ:=by exact⟨jU _,⟨ac,ac,.inl ⟨rfl,rfl⟩⟩⟩);obtain⟨k,x,S⟩:=q;dsimp only at*
 obtain⟨v8,hJ⟩:=hk;have v5:=hJ.l;apply ye;apply yc;iterate 4 refine ya ?_
 refine bI 4 ?_;refine yw ?_;refine bE ?_;refine bE ?_ (hs:=by intro x0;exact yg rfl);iterate 5 refine bE ?_
 refine gf ?_ ?_<;>intro v4
 ·obtain⟨a,ha⟩:∃a,l[k]? =some a:=⟨_,lgg aa⟩;have v3:l[(k:Int).toNat]? =some a:=ha;have hM:=zbf a 1048576 (hr a (j6 ha)) aa;generalize hN:a%1048576=n at hM;have hn:0<=n/\n<1048576:=aa
  refine gc hM ?_;refine gd ?_ ?_<;>intro v2
  ·have v1:k=0:=aa
   have w2:([(⟨2,2,2,2⟩:Mn),⟨2,2,3,2⟩,⟨2,2,2,3⟩])[(n%3).toNat]? =some (mG n):=by
    unfold mG;have h:n%3=0\/n%3=1\/n%3=2:=aa
    rcases h with e|e|e<;>rw[e]<;>rfl
   have k9:([(⟨2,2,2,2⟩:Mn),⟨2,2,3,2⟩,⟨2,2,2,3⟩]).length=3:=rfl
   have G:RdJ (k+1) ⟨mG n,x.p,false⟩ (S++[mnS (mG n) (decide (n/3%4=0))]):=by
    rcases hJ.s with⟨_,e⟩|⟨h,_⟩
    ·exact⟨hJ.p,by rw[jJ];simp only[w5,uM];omega,.inr ⟨aa,_,[],by rw[e];rfl,zHP n,.zz,ah⟩⟩
    ·omega
   refine gq ?_;refine yH mnE [(⟨2,2,2,2⟩:Mn),⟨2,2,3,2⟩,⟨2,2,2,3⟩] ?_;(iterate 3 refine ya ?_);refine yO (zQ rfl rfl w2 rfl rfl ty67) rfl ?_;refine ya ?_ (hs:=by exact yg rfl);refine ya ?_;refine bF ?_;apply yp;(iterate 2 refine ya ?_);refine ya ?_ (hs:=by exact yg rfl);refine gq ?_;refine y0 [(2000000,40),(2000001,41),(2000002,43)] (yL nmB ⟨mG n,x.p,x.d⟩ S aa (mnS (mG n) (decide (n/3%4=0))) false) ?_;apply bD;apply bH;refine yl (st':=⟨[(0,yj l),(2,.ptr 2 0 0 0),(3,.ptr 40 0 0 0),(4,iv (k:Int))],[(1000001,.hold vs []),(2,.box [.str ⟨#[]⟩,.nils] 26),(40,.box (mkrE nmB 43 ⟨mG n,x.p,false⟩) 81),(43,.row sgE (S++[mnS (mG n) (decide (n/3%4=0))]) 69 17)]⟩) kW ?_;refine yl (bY 43 41 rfl rfl) ?_;refine gq ?_
   refine yr ((k+1,⟨mG n,x.p,false⟩,S++[mnS (mG n) (decide (n/3%4=0))])) (hJ:=by
    refine⟨am,?_⟩;first|exact G|exact hJ.a N q.2.1 q.2.2.1 λT h=>h.app q.2.2.2|exact xT|exact x2|exact x1) (hm:=by(dsimp only;omega)) (hI:=kW)
  have N:1<=k:=aa
  have x1:RdJ (k+1) ⟨x.m,stP x.p (n/24),true⟩ (S++[ntR (3+n/6%4) (stP x.p (n/24))]):=hJ.a N (zgk _ _) ah λT h=>.nn _ _ true h aa (zgk _ _)
  have x2:RdJ (k+1) ⟨x.m,x.p,false⟩ (S++[rtR (3+n/6%4)]):=hJ.a N hJ.p ah λT h=>.rr _ h aa
  apply yf;apply kX;apply yc;refine ya ?_;refine ya ?_ (hs:=by exact yg rfl);refine gd ?_ ?_<;>intro k8
  ·apply yd;(iterate 2 refine ya ?_);refine zaB [(2000000,40),(2000001,41),(2000005,43)] (zbo nmB x S aa hJ.p 3 n aa aa) (λq=>?_);apply bD;refine yl (st':=⟨[(0,yj l),(2,.ptr 2 0 0 0),(3,.ptr 40 0 0 0),(4,iv (k:Int))],[(1000001,.hold vs []),(2,.box [.str ⟨#[]⟩,.nils] 26),(40,.box (mkrE nmB 43 ⟨x.m,q.1.1,false⟩) 81),(43,.row sgE (S++q.1.2) 69 17)]⟩) kW ?_;refine yl (bY 43 41 rfl rfl) ?_;refine gq ?_
   refine yr ((k+1,⟨x.m,q.1.1,false⟩,S++q.1.2)) (hJ:=by
    refine⟨am,?_⟩;first|exact G|exact hJ.a N q.2.1 q.2.2.1 λT h=>h.app q.2.2.2|exact xT|exact x2|exact x1) (hm:=by(dsimp only;omega)) (hI:=kW)
  ·apply yc;refine ya ?_;refine ya ?_ (hs:=by exact yg rfl);refine gd ?_ ?_<;>intro k7
   ·apply yd;(iterate 2 refine ya ?_);refine zaB [(2000000,40),(2000001,41),(2000005,43)] (zbo nmB x S aa hJ.p 4 n aa aa) (λq=>?_);apply bD;refine yl (st':=⟨[(0,yj l),(2,.ptr 2 0 0 0),(3,.ptr 40 0 0 0),(4,iv (k:Int))],[(1000001,.hold vs []),(2,.box [.str ⟨#[]⟩,.nils] 26),(40,.box (mkrE nmB 43 ⟨x.m,q.1.1,false⟩) 81),(43,.row sgE (S++q.1.2) 69 17)]⟩) kW ?_;refine yl (bY 43 41 rfl rfl) ?_;refine gq ?_
    refine yr ((k+1,⟨x.m,q.1.1,false⟩,S++q.1.2)) (hJ:=by
     refine⟨am,?_⟩;first|exact G|exact hJ.a N q.2.1 q.2.2.1 λT h=>h.app q.2.2.2|exact xT|exact x2|exact x1) (hm:=by(dsimp only;omega)) (hI:=kW)
   ·refine gd ?_ ?_<;>intro k6
    ·refine gq ?_;refine y0 [(2000000,40),(2000001,41),(2000002,43)] (yL nmB x S aa (rtR (3+n/6%4)) false) ?_;apply bD;refine yl (st':=⟨[(0,yj l),(2,.ptr 2 0 0 0),(3,.ptr 40 0 0 0),(4,iv (k:Int))],[(1000001,.hold vs []),(2,.box [.str ⟨#[]⟩,.nils] 26),(40,.box (mkrE nmB 43 ⟨x.m,x.p,false⟩) 81),(43,.row sgE (S++[rtR (3+n/6%4)]) 69 17)]⟩) kW ?_;refine yl (bY 43 41 rfl rfl) ?_;refine gq ?_
     refine yr ((k+1,⟨x.m,x.p,false⟩,S++[rtR (3+n/6%4)])) (hJ:=by
      refine⟨am,?_⟩;first|exact G|exact hJ.a N q.2.1 q.2.2.1 λT h=>h.app q.2.2.2|exact xT|exact x2|exact x1) (hm:=by(dsimp only;omega)) (hI:=kW)
    ·apply yc;(iterate 3 refine ya ?_);refine bI 3 ?_;refine yw ?_;refine bE ?_;refine bE ?_ (hs:=by intro x0;exact yg rfl);(iterate 2 refine bE ?_);refine gf ?_ ?_<;>intro v9
     ·have xT:RdJ (k+1) ⟨x.m,x.p,false⟩ (S++[dtR]):=hJ.a N hJ.p ah λT h=>.dd (by rw[v9.2]at h;exact h)
      refine gq ?_;refine y0 [(2000000,40),(2000001,41),(2000002,43)] (yL nmB x S aa dtR false) ?_;apply bD;refine yl (st':=⟨[(0,yj l),(2,.ptr 2 0 0 0),(3,.ptr 40 0 0 0),(4,iv (k:Int))],[(1000001,.hold vs []),(2,.box [.str ⟨#[]⟩,.nils] 26),(40,.box (mkrE nmB 43 ⟨x.m,x.p,false⟩) 81),(43,.row sgE (S++[dtR]) 69 17)]⟩) kW ?_;refine yl (bY 43 41 rfl rfl) ?_;refine gq ?_
      refine yr ((k+1,⟨x.m,x.p,false⟩,S++[dtR])) (hJ:=by
       refine⟨am,?_⟩;first|exact G|exact hJ.a N q.2.1 q.2.2.1 λT h=>h.app q.2.2.2|exact xT|exact x2|exact x1) (hm:=by(dsimp only;omega)) (hI:=kW)
     ·refine gq ?_;refine y0 [(2000000,40),(2000001,41)] (zv nmB x S (n/24) aa hJ.p) ?_;refine gq ?_;refine y0 [(2000000,40),(2000001,41),(2000002,43)] (yL nmB ⟨x.m,stP x.p (n/24),x.d⟩ S aa (ntR (3+n/6%4) (stP x.p (n/24))) true) ?_;apply bD;refine yl (st':=⟨[(0,yj l),(2,.ptr 2 0 0 0),(3,.ptr 40 0 0 0),(4,iv (k:Int))],[(1000001,.hold vs []),(2,.box [.str ⟨#[]⟩,.nils] 26),(40,.box (mkrE nmB 43 ⟨x.m,stP x.p (n/24),true⟩) 81),(43,.row sgE (S++[ntR (3+n/6%4) (stP x.p (n/24))]) 69 17)]⟩) kW ?_;refine yl (bY 43 41 rfl rfl) ?_;refine gq ?_
      refine yr ((k+1,⟨x.m,stP x.p (n/24),true⟩,S++[ntR (3+n/6%4) (stP x.p (n/24))])) (hJ:=by
       refine⟨am,?_⟩;first|exact G|exact hJ.a N q.2.1 q.2.2.1 λT h=>h.app q.2.2.2|exact xT|exact x2|exact x1) (hm:=by(dsimp only;omega)) (hI:=kW)
 ·apply bH;apply ye;refine yl (kY (k:=41) rfl) ?_;apply yd;refine ya ?_;refine ya ?_ (hs:=by exact yg rfl);iterate 2 refine ya ?_
  refine bF ?_;apply bD;refine bC ?_;refine zm3.mk (⟨S,hJ.e aa⟩) [(2,.ptr 2 0 0 0)] [(2,.box [.str nmB,sgsA S] 26)] (.inr rfl) (kW) (.one (.cellA rfl rfl rfl rfl ty26 (kZ rfl)))
end
section
def zzF{a b:Int}(h:∀g:Nat,(g:Int)∣a->(g:Int)∣b->g=1):gI a b=1:=by
 simp_all[vM,xK,xD,gI]
def zzG{X Y:Int}(h0:0<=X)(h1:1<=Y)(h:tmkE X Y=0):ckT (tmkT X Y)=0:=by
 have hT:tmkT X Y=⟨X/gI X Y,Y/gI X Y⟩:=by unfold tmkT;rw[j7 h]
 have G:=zg3 (n:=X) (d:=Y) aa;have gx:gI X Y∣X:=vM.2 (xK _ _);have gy:gI X Y∣Y:=vM.2 (xD _ _);have ex:=Int.mul_ediv_cancel' gx;have ey:=Int.mul_ediv_cancel' gy;have x2:0<=X/gI X Y:=uL h0 aa
 have x1:0<Y/gI X Y:=by
  apply jY;intro hn;have:=Int.mul_le_mul_of_nonneg_left (show Y/gI X Y<=0 by omega) (vV G);omega
 have xT:gI (X/gI X Y) (Y/gI X Y)=1:=zzF λd h2 h3=>by
  obtain⟨a,ha⟩:=h2;obtain⟨b,hb⟩:=h3;have ea:=ex;rw[ha]at ea;have eb:=ey;rw[hb]at eb;have d1:((Nat.gcd X.natAbs Y.natAbs*d:Nat):Int)∣X:=⟨a,ea.symm.trans (by rw[Int.natCast_mul,Int.mul_assoc];rfl)⟩;have d2:((Nat.gcd X.natAbs Y.natAbs*d:Nat):Int)∣Y:=⟨b,eb.symm.trans (by rw[Int.natCast_mul,Int.mul_assoc];rfl)⟩;have d3:=Nat.dvd_gcd (vM.1 d1) (vM.1 d2);have N:0<Nat.gcd X.natAbs Y.natAbs:=by unfold gI at G;omega
  obtain⟨q,hq⟩:=d3;have:d*q=1:=Nat.eq_of_mul_eq_mul_left N (by rw[←Nat.mul_assoc,←hq,Nat.mul_one]);exact Nat.eq_one_of_mul_eq_one_right this
 grind[tmkE,ckT]
def zuz{a b:Tm}(N:ckT a=0)(G:ckT b=0):y5 [a,b]=0:=by simp[y5,N,G]
end
section
variable{a b u:Int}
def tq(u:Int):Tm:=⟨u/gI u 16,16/gI u 16⟩
theorem redN{n d u v:Nat}(hd:0<d)(hv:0<v)(h:n*v=u*d):n/Nat.gcd n d=u/Nat.gcd u v/\d/Nat.gcd n d=v/Nat.gcd u v:=by
 have N:0<Nat.gcd n d:=xV _ hd;have hk:0<Nat.gcd u v:=xV _ hv;obtain⟨a,G⟩:=xK n d;obtain⟨b,hb⟩:=xD n d;obtain⟨x,hx⟩:=xK u v;obtain⟨y,hy⟩:=xD u v
 have c1:Nat.Coprime a b:=by
  have:=Nat.coprime_div_gcd_div_gcd N
  rwa[wX N G,wX N hb]at this
 have c2:Nat.Coprime x y:=by
  have:=Nat.coprime_div_gcd_div_gcd hk
  rwa[wX hk hx,wX hk hy]at this
 rw[wX N G,wX N hb,wX hk hx,wX hk hy];generalize Nat.gcd n d=g at*
 generalize Nat.gcd u v=k at*
 subst G hb hx hy
 have e:a*y=x*b:=by
  refine Nat.eq_of_mul_eq_mul_left (Nat.mul_pos N hk) ?_
  calc g*k*(a*y)=g*a*(k*y):=by ac_rfl
   _=k*x*(g*b):=h
   _=g*k*(x*b):=by ac_rfl
 have d1:b∣y:=c1.symm.dvd_of_dvd_mul_left ⟨x,by rw[e,u3]⟩;have d2:y∣b:=c2.symm.dvd_of_dvd_mul_left ⟨a,by rw[←e,u3]⟩;have e2:=Nat.dvd_antisymm d1 d2;subst e2;have xT:0<b:=Nat.pos_of_mul_pos_left hd
 grind[Nat.eq_of_mul_eq_mul_right]
theorem zzH{n d:Int}(h0:0<=n)(h1:1<=d)(G:0<=u)(h:n*16=u*d):n/gI n d=(tq u).N/\d/gI n d=(tq u).D:=by
 grind[redN,tq,gI]
theorem gI16(u:Int):gI u 16=1\/gI u 16=2\/gI u 16=4\/gI u 16=8\/gI u 16=16:=by
 have h:∀k:Fin 17,k.val∣16->k.val=1\/k.val=2\/k.val=4\/k.val=8\/k.val=16:=ac
 have h1:Nat.gcd u.natAbs 16∣16:=xD _ _;have N:=h ⟨_,Nat.lt_succ_of_le (Nat.le_of_dvd ac h1)⟩ h1
 grind[gI]
def zCw(u:Int):gI u 16∣u:=vM.2 (xK _ _)
theorem zg7(u:Int):(tq u).D=1\/(tq u).D=2\/(tq u).D=4\/(tq u).D=8\/(tq u).D=16:=by
 grind[gI16,tq]
theorem zqf(u:Int):(tq u).N*16=u*(tq u).D:=by
 show u/gI u 16*16=u*(16/gI u 16);have h:=zCw u;rcases gI16 u with e|e|e|e|e<;>rw[e]at h⊢<;>omega
theorem zo8{n d:Int}(h0:0<=n)(h1:1<=d)(N:0<=u)(G:u<=1000000000)(h:n*16=u*d):tmkE n d=0/\tmkT n d=tq u:=by
 grind[zzH,zqf,tmkE,zg7,tmkT,tq]
def Uq(u:Int):Prop:=0<=u/\u<=1000000000
def ziY(h:Uq u):ckT (tq u)=0:=by
 have h1:=zo8 (n:=u) (d:=16) h.1 ac h.1 h.2 rfl;rw[←h1.2];exact zzG h.1 ac h1.1
theorem zmH(N:Uq a)(G:Uq b):y5 [tq a,tq b]=0:=zuz (ziY N) (ziY G)
def zuA(h:Uq u):0<=(tq u).N/\(tq u).N<=u:=by
 have G:=zqf u;have:=h.1;rcases zg7 u with e|e|e|e|e<;>rw[e]at G<;>omega
def znO(s:Int):((tq a).N*(tq b).D+s*((tq b).N*(tq a).D))*16=(a+s*b)*((tq a).D*(tq b).D):=by
 grind[zqf]
theorem zrT(a b:Int):1<=(tq a).D*(tq b).D:=mulP (by rcases zg7 a with e|e|e|e|e<;>omega) (by rcases zg7 b with e|e|e|e|e<;>omega)
def znP(N:Uq a)(G:Uq b)(h:a+b<=1000000000):addE (tq a) (tq b)=0/\addV (tq a) (tq b)=tq (a+b):=by
 have h1:=znO (a:=a) (b:=b) 1;have n1:=zuA N;have n2:=zuA G;have d1:0<=(tq a).D:=by rcases zg7 a with e|e|e|e|e<;>omega
 have d2:0<=(tq b).D:=by rcases zg7 b with e|e|e|e|e<;>omega
 have m1:=uU n1.1 d2;have m2:=uU n2.1 d1
 grind[zo8,zrT,addE,addV,zmH]
theorem zo9(a b:Int):(tq a).N*(tq b).D<(tq b).N*(tq a).D↔a<b:=by
 have h1:=znO (a:=a) (b:=b) (-1);have G:=zrT a b;constructor
 ·intro h;refine jY λhc=>?_
  have:=uU (show 0<=a+-1*b by omega) (show 0<=(tq a).D*(tq b).D by omega);omega
 ·intro h;have:=Int.mul_pos (show 0<b-a by omega) (show 0<(tq a).D*(tq b).D by omega)
  grind
def zzI(G:Uq a)(hb:Uq b)(h:b<=a):subE (tq a) (tq b)=0/\subV (tq a) (tq b)=tq (a-b):=by
 have h1:=znO (a:=a) (b:=b) (-1);have hl:=zo9 a b
 have:=zo8 (n:=(tq a).N*(tq b).D-(tq b).N*(tq a).D) (d:=(tq a).D*(tq b).D) (u:=a-b) aa (zrT a b) aa (by have:=G.2;have:=hb.1;omega) (by
  rw[show a-b=a+-1*b by omega,←h1];omega)
 simp_all[subE,subV,zmH]
theorem zg8(N:Uq a)(G:Uq b):cmpV (tq a) (tq b)=if a<b then-1 else if b<a then 1 else 0:=by
 simp_all[cmpV,zmH,zo9]
def zrU(h:tq a=tq b):a=b:=by
 have h1:=zo9 a b
 grind[zo9]
def zuB(u:Int):(tq u).N=0↔u=0:=by
 grind[zqf,zg7]
def zkq(n:Int):tq (16*n)=⟨n,1⟩:=by
 have:gI (16*n) 16=16:=by unfold gI;rw[show(16*n).natAbs=16*n.natAbs by omega];simp[Nat.gcd_mul_right_left]
 simp_all[tq]
end
section
def pf(us:List Int)(k:Nat):Int:=(us.take k).sum
def Pos(us:List Int):Prop:=∀u∈us,0<u
section
variable{us:List Int}{k n:Nat}{u p q A B:Int}
theorem ziZ(us:List Int):pf us 0=0:=by simp[pf]
def zuC(h:us[k]? =some u):pf us (k+1)=pf us k+u:=by
 unfold pf;rw[jK,h];simp
theorem zaA(us:List Int):pf us us.length=us.sum:=by simp[pf]
theorem zhu(N:Pos us)(h:k<us.length):pf us k<pf us (k+1):=by
 rw[zuC (lgg h)];have:=N _ (wK h);omega
def zpa(N:Pos us)(k:Nat):∀d,pf us k<=pf us (k+d)
 |0=>vD _
 |d+1=>by
  have h1:=zpa N k d;rcases wH (k+d) us.length with h|h
  ·have:=zhu N h;rw[←uB];omega
  grind[pf,List.take_of_length_le]
def zca(N:Pos us)(h:k<=n):pf us k<=pf us n:=by
 have:=zpa N k (n-k);simp_all
theorem zzJ(N:Pos us)(h:k<n)(hn:n<=us.length):pf us k<pf us n:=by
 have h1:=zhu N (k:=k) aa;have G:=zca N (k:=k+1) (n:=n) aa;omega
theorem zgm(N:Pos us)(k:Nat):0<=pf us k:=by have:=zca N (jU k);grind[ziZ]
def nx:List Int->Int->Nat
 |[],_=>0
 |u::r,p=>if u<=p then nx r (p-u)+1 else 0
def ns:List Int->Int->Nat
 |[],_=>0
 |u::r,p=>if 0<p then ns r (p-u)+1 else 0
theorem zgn(u:Int)(r:List Int)(k:Nat):pf (u::r) (k+1)=u+pf r k:=by simp[pf]
theorem zdm:∀{us:List Int}{n:Nat}{p:Int},Pos us->n<=us.length->pf us n<=p->(n=us.length\/p<pf us (n+1))->nx us p=n
 |[],n,p,_,h,_,_=>by simp at h;rw[h];rfl
 |u::r,0,p,_,_,_,h=>by
  simp_all[zgn,ziZ,nx]
 |u::r,n+1,p,N,h,h1,G=>by
  have hr:Pos r:=λx hx=>N x (wA _ hx)
  rw[zgn]at h1;have:=zgm hr n
  rw[nx,j7 aa,zdm (us:=r) (n:=n) hr (ao h) aa (by
   grind[zgn])]
theorem zrV:∀{us:List Int}{n:Nat}{p:Int},Pos us->n<=us.length->(∀k,k<n->pf us k<p)->(n=us.length\/p<=pf us n)->ns us p=n
 |[],n,p,_,h,_,_=>by simp at h;rw[h];rfl
 |u::r,0,p,_,_,_,h=>by
  simp_all[ziZ,ns]
 |u::r,n+1,p,N,h,h1,G=>by
  have hr:Pos r:=λx hx=>N x (wA _ hx)
  have h0:=h1 0 aa;rw[ziZ]at h0
  rw[ns,j7 h0,zrV (us:=r) (n:=n) hr (ao h) (λk hk=>by
   grind[zgn]) (by
   grind[zgn])]
end
def pcg(us:List Int)(A B:Int)(k:Nat):Nat×Int:=(k,min B (pf us (k+1))-max A (pf us k))
def brA(us:List Int)(L:Int)(i:Nat):Int:=min (i*L) us.sum
def brM(us:List Int)(L:Int):Nat:=((us.sum+L-1)/L).toNat
def chP(us:List Int):List (Nat×Int×Bool)->Int->Prop
 |[],p=>p=us.sum
 |(k,d,t)::S,p=>k<us.length/\pf us k<=p/\0<d/\p+d<=pf us (k+1)/\t=decide (p+d<pf us (k+1))/\chP us S (p+d)
section
variable{us:List Int}{k n:Nat}{u p q A B L:Int}
variable{S:List (Nat×Int×Bool)}{i:Nat}
def zgo(N:Pos us)(h0:0<=p)(h1:p<us.sum):nx us p<us.length/\pf us (nx us p)<=p/\p<pf us (nx us p+1):=by
 have:∃n,n<us.length/\pf us n<=p/\p<pf us (n+1):=by
  have key:∀d,d<=us.length->p<pf us d->∃n,n<us.length/\pf us n<=p/\p<pf us (n+1):=by
   intro d
   induction d with
   |zero=>intro _ h;rw[ziZ]at h;omega
   |succ d ih=>
    intro G h;by_cases c:p<pf us d
    ·exact ih aa c
    ·exact⟨d,aa,aa,h⟩
  grind[zaA]
 obtain⟨n,a,b,c⟩:=this;rw[zdm N aa b (.inr c)];exact⟨a,b,c⟩
theorem zpb(N:Pos us)(h0:0<p)(h1:p<=us.sum):0<ns us p/\ns us p<=us.length/\(∀k,k<ns us p->pf us k<p)/\p<=pf us (ns us p):=by
 have:∃n,0<n/\n<=us.length/\(∀k,k<n->pf us k<p)/\p<=pf us n:=by
  have key:∀d,d<=us.length->p<=pf us d->∃n,0<n/\n<=us.length/\(∀k,k<n->pf us k<p)/\p<=pf us n:=by
   intro d
   induction d with
   |zero=>intro _ h;rw[ziZ]at h;omega
   |succ d ih=>
    intro G h;by_cases c:p<=pf us d
    ·exact ih aa c
    ·exact⟨d+1,aa,G,λk hk=>by have:=zca N (k:=k) (n:=d) aa;omega,h⟩
  exact key us.length (jG _) (by rw[zaA];exact h1)
 grind[zrV]
theorem zrW(N:Pos us)(h0:0<=A)(h1:A<B)(G:B<=us.sum):nx us A<ns us B:=by
 obtain⟨a1,a2,a3⟩:=zgo N h0 aa;obtain⟨b1,b2,b3,b4⟩:=zpb N (p:=B) aa G;refine jY λhc=>?_
 have:=zca N (k:=ns us B) (n:=nx us A) aa;omega
def pcT(us:List Int)(A B:Int)(k:Nat):Nat×Int×Bool:=(k,(pcg us A B k).2,decide (B<pf us (k+1)))
def brT(us:List Int)(A B:Int):List (Nat×Int×Bool):=(List.range' (nx us A) (ns us B-nx us A)).map (pcT us A B)
theorem zrX(N:Pos us){S:List (Nat×Int×Bool)}(hS:chP us S B):∀(c n:Nat),0<c->A<pf us (n+1)->(∀k,k<n+c->pf us k<B)->B<=pf us (n+c)->n+c<=us.length->A<B→
 chP us ((List.range' n c).map (pcT us A B)++S) (max A (pf us n))
 |0,n,h,_,_,_,_,_=>absurd h aa
 |c+1,n,_,hA,G,hE,hl,xT=>by
  have hn:=G n aa;have x1:=zhu N (k:=n) aa;rw[xJ,wW,wY];refine⟨aa,aa,by simp only[pcg];omega,by simp only[pcg];omega,?_,?_⟩
  ·grind[pcg]
  ·rcases x7 c with rfl|hc
   ·grind[pcg]
   ·have x2:=G (n+1) aa;have:=zrX N hS c (n+1) hc (by have:=zhu N (k:=n+1) aa;omega) (λk hk=>G k aa) (by rw[show n+1+c=n+(c+1)by omega];exact hE) aa xT
    grind[pcg]
theorem zzK(N:Pos us)(h0:0<=A)(G:A<B)(hB:B<=us.sum)(hS:chP us S B):chP us (brT us A B++S) A:=by
 obtain⟨a1,a2,a3⟩:=zgo N h0 aa
 grind[zpb,zrW,zrX,brT]
def zi0(N:Pos us):0<=us.sum:=by rw[←zaA];exact zgm N _
def zpc(N:Pos us)(G:0<L):i<brM us L↔i*L<us.sum:=by
 have h0:=zi0 N;unfold brM;have h1:=Int.mul_ediv_add_emod (us.sum+L-1) L;have h2:=vH (us.sum+L-1) (show L≠0 by omega);have h3:=uN (us.sum+L-1) G;have h4:0<=(us.sum+L-1)/L:=uL aa aa;generalize(us.sum+L-1)/L=m at*
 generalize(us.sum+L-1)%L=z at*
 constructor
 ·intro h;have:=Int.mul_le_mul_of_nonneg_right (show(i:Int)+1<=m by omega) (show 0<=L by omega)
  grind
 ·intro h;refine jY λhc=>?_
  have:=Int.mul_le_mul_of_nonneg_right (show m<=(i:Int)by omega) (show 0<=L by omega)
  grind
theorem zi1(N:Pos us)(G:0<L)(h:i<brM us L):0<=brA us L i/\brA us L i=i*L/\brA us L i<brA us L (i+1)/\brA us L (i+1)<=us.sum:=by
 have h1:=(zpc N G).1 h;have h2:(0:Int)<=i*L:=uU aa aa
 grind[brA]
def brsT(us:List Int)(L:Int)(i n:Nat):List (Nat×Int×Bool):=(List.range' i n).flatMap λi=>brT us (brA us L i) (brA us L (i+1))
def zrY(N:Pos us)(G:0<L):∀(n i:Nat),i+n=brM us L->chP us (brsT us L i n) (brA us L i)
 |0,i,h=>by
  have:¬(i:Int)*L<us.sum:=λh'=>by have:=(zpc N G).2 h';omega
  show brA us L i=us.sum;unfold brA;omega
 |n+1,i,h=>by
  have ih:=zrY N G n (i+1) aa
  grind[zi1,brsT,List.range'_succ,zzK]
end
end
section
structure Pt where
 Step:Int
 Oct:Int
 Alt:Int
 deriving DecidableEq
structure Ev where
 At:Tm
 Dur:Tm
 P:Pt
 R:Bool
 S:Int
 Ps:Int
 deriving DecidableEq
instance:Inhabited Pt:=⟨⟨0,0,0⟩⟩
instance:Inhabited Ev:=⟨⟨default,default,default,false,0,0⟩⟩
def piE:Pt->List AV:=λp=>[iv p.Step,iv p.Oct,iv p.Alt]
abbrev piA(p:Pt):AV:=.agg (piE p)
def evE:Ev->List AV:=λe=>[iv e.At.N,iv e.At.D,iv e.Dur.N,iv e.Dur.D,iv e.P.Step,iv e.P.Oct,iv e.P.Alt,.bool e.R,iv e.S,iv e.Ps]
abbrev evsA(l:List Ev):AV:=.sl evE l
def vosE:List Ev->List AV:=λl=>[.sl evE l]
abbrev vosA(l:List (List Ev)):AV:=.sl vosE l
instance:EncK evE 10:=⟨λ_=>rfl⟩
instance:EncK vosE 1:=⟨λ_=>rfl⟩
def zpd(a b:Pt):eqL (piE a) (piE b)=some (decide (a=b)):=by
 obtain⟨a1,a2,a3⟩:=a;obtain⟨b1,b2,b3⟩:=b;refine(yZ rfl (yZ rfl (yZ rfl rfl))).trans ?_;simp_all
def zuD(a b:Ev):eqL (evE a) (evE b)=some (decide (a=b)):=by
 obtain⟨⟨a1,a2⟩,⟨a3,a4⟩,⟨a5,a6,a7⟩,a8,a9,a10⟩:=a;obtain⟨⟨b1,b2⟩,⟨b3,b4⟩,⟨b5,b6,b7⟩,b8,b9,b10⟩:=b;refine(yZ rfl (yZ rfl (yZ rfl (yZ rfl (yZ rfl (yZ rfl (yZ rfl (yZ rfl (yZ rfl (yZ rfl rfl)))))))))).trans ?_;simp[Bool.and_assoc,Bool.beq_eq_decide_eq]
structure PtV(p:Pt):Prop where
 s:0<=p.Step/\p.Step<=6
 o:0<=p.Oct/\p.Oct<=8
 a:-1<=p.Alt/\p.Alt<=1
structure Nu where
 u:Int
 P:Pt
 R:Bool
 S:Int
 Ps:Int
instance:Inhabited Nu:=⟨⟨1,default,false,0,0⟩⟩
structure NuK(x:Nu):Prop where
 u:0<x.u/\x.u<=1000
 p:PtV x.P
 r:x.R=true->x.P=⟨0,0,0⟩
 s:0<=x.S/\x.S<=400
 ps:0<=x.Ps/\x.Ps<=400
abbrev usV(V:List Nu):List Int:=V.map (·.u)
structure VoK(V:List Nu):Prop where
 l:V.length<=60
 k:∀x∈V,NuK x
def evA(V:List Nu)(k:Nat)(x:Nu):Ev:=⟨tq (pf (usV V) k),tq x.u,x.P,x.R,x.S,x.Ps⟩
def evL(V:List Nu):List Ev:=V.mapIdx (evA V)
section
variable{V:List Nu}{k:Nat}{x:Nu}
def zj(V:List Nu):(evL V).length=V.length:=by unfold evL;simp
def zdJ(h:V[k]? =some x):(evL V)[k]? =some (evA V k x):=by simp_all[evL]
def zxk(h:V[k]? =some x):(usV V)[k]? =some x.u:=ak
def VoK.pos(h:VoK V):Pos (usV V):=λu N=>by
 obtain⟨x,hx,rfl⟩:=jS.1 N;exact(h.k x hx).u.1
def zlH:∀{l:List Int}{B:Int},(∀u∈l,u<=B)->l.sum<=l.length*B
 |[],_,_=>by simp
 |u::l,B,h=>by
  have h1:=h u ah;have G:=zlH (l:=l) (B:=B) λv N=>h v (wA _ N)
  simp[Int.add_mul];omega
def VoK.sum(h:VoK V):0<=(usV V).sum/\(usV V).sum<=60000:=by
 have h1:=zlH (l:=usV V) (B:=1000) λu N=>by
  obtain⟨x,hx,rfl⟩:=jS.1 N;exact(h.k x hx).u.2
 have G:=h.l;rw[jD]at h1;exact⟨zi0 h.pos,aa⟩
theorem VoK.pf(h:VoK V)(k:Nat):0<=pf (usV V) k/\pf (usV V) k<=60000:=by
 refine⟨zgm h.pos k,xH (zca h.pos (Nat.le_max_left k V.length)) ?_⟩;have h1:=h.sum.2
 grind[Go.Rse.pf,List.take_of_length_le]
def VoK.uq(h:VoK V)(k:Nat):Uq (Go.Rse.pf (usV V) k):=⟨(h.pf k).1,by have:=(h.pf k).2;omega⟩
def NuK.uq(h:NuK x):Uq x.u:=⟨by have:=h.u.1;omega,by have:=h.u.2;omega⟩
def zxl(h:V[k]? =some x):pf (usV V) (k+1)=pf (usV V) k+x.u:=zuC (zxk h)
theorem zrZ(V:List Nu):pf (usV V) V.length=(usV V).sum:=by rw[←zaA,jD]
end
end
end Go.Rse
