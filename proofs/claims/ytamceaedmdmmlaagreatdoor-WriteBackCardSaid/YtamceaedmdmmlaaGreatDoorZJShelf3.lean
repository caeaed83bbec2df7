/-
  DERIVED.
-/
import Derived.Shelf.SlSortCmp.WholeK
import Derived.Ground.SlsfProg
import Derived.Test.YtamceaedmdmmlaaGreatDoorZJBlk1
import Derived.Lib.AppendZeros
set_option linter.all false
set_option maxHeartbeats 8000000
namespace Go.Proofs
open Go.Shelf Go.Proofs.Tryz
def zgW:Go.Shelf.Ren:=⟨λ|6=>82|15=>128|14=>127|28=>195|29=>196|20=>187|21=>188|22=>189|23=>190|24=>191|25=>192|26=>193|27=>194|46=>238|47=>239|48=>240|49=>241|50=>242|57=>272|n=>n,λ|22=>151|24=>150|25=>153|3=>3|39=>203|0=>0|53=>250|55=>252|4=>4|46=>243|45=>242|50=>247|5=>5|9=>9|66=>298|70=>302|76=>332|77=>187|n=>n,λ|n=>n⟩
def zj4:Go.Proofs.SlLaysF0.n6 prog zgW:={
 mixed:=by kernel_rfl
 f6:=⟨f82.name,by decide,func82.trans (congrArg some (by kernel_rfl))⟩
 f14:=⟨f127.name,by decide,func127.trans (congrArg some (by kernel_rfl))⟩
 f15:=func128.trans (congrArg some (by kernel_rfl))
 f20:=⟨f187.name,by decide,func187.trans (congrArg some (by kernel_rfl))⟩
 f21:=⟨f188.name,by decide,func188.trans (congrArg some (by kernel_rfl))⟩
 f22:=⟨f189.name,by decide,func189.trans (congrArg some (by kernel_rfl))⟩
 f23:=⟨f190.name,by decide,func190.trans (congrArg some (by kernel_rfl))⟩
 f24:=⟨f191.name,by decide,func191.trans (congrArg some (by kernel_rfl))⟩
 f25:=⟨f192.name,by decide,func192.trans (congrArg some (by kernel_rfl))⟩
 f26:=⟨f193.name,by decide,func193.trans (congrArg some (by kernel_rfl))⟩
 f27:=⟨f194.name,by decide,func194.trans (congrArg some (by kernel_rfl))⟩
 f28:=func195.trans (congrArg some (by kernel_rfl))
 f29:=func196.trans (congrArg some (by kernel_rfl))
 f46:=⟨f238.name,by decide,func238.trans (congrArg some (by kernel_rfl))⟩
 f47:=func239.trans (congrArg some (by kernel_rfl))
 f48:=func240.trans (congrArg some (by kernel_rfl))
 f49:=⟨f241.name,by decide,func241.trans (congrArg some (by kernel_rfl))⟩
 f50:=⟨f242.name,by decide,func242.trans (congrArg some (by kernel_rfl))⟩
 f57:=⟨f272.name,by decide,func272.trans (congrArg some (by kernel_rfl))⟩
 t0:=Tryz.underlying0
 a0:=Tryz.isAgg0
 z0:=Tryz.sizeOf0
 v0:=Tryz.zeroValue0
 t3:=Tryz.underlying3
 a3:=Tryz.isAgg3
 z3:=Tryz.sizeOf3
 v3:=Tryz.zeroValue3
 t4:=Tryz.underlying4
 a4:=Tryz.isAgg4
 z4:=Tryz.sizeOf4
 v4:=Tryz.zeroValue4
 t5:=Tryz.underlying5
 a5:=Tryz.isAgg5
 z5:=Tryz.sizeOf5
 v5:=Tryz.zeroValue5
 t9:=Tryz.underlying9
 a9:=Tryz.isAgg9
 z9:=Tryz.sizeOf9
 v9:=Tryz.zeroValue9
 t22:=Tryz.underlying151
 a22:=Tryz.isAgg151
 z22:=Tryz.sizeOf151
 v22:=Tryz.zeroValue151
 t25:=Tryz.underlying153
 a25:=Tryz.isAgg153
 z25:=Tryz.sizeOf153
 v25:=Tryz.zeroValue153
 t39:=Tryz.underlying203
 a39:=Tryz.isAgg203
 z39:=Tryz.sizeOf203
 v39:=Tryz.zeroValue203
 t45:=Tryz.underlying242
 a45:=Tryz.isAgg242
 z45:=Tryz.sizeOf242
 v45:=Tryz.zeroValue242
 t46:=Tryz.underlying243
 a46:=Tryz.isAgg243
 z46:=Tryz.sizeOf243
 v46:=Tryz.zeroValue243
 t50:=Tryz.underlying247
 a50:=Tryz.isAgg247
 z50:=Tryz.sizeOf247
 v50:=Tryz.zeroValue247
 t53:=Tryz.underlying250
 a53:=Tryz.isAgg250
 z53:=Tryz.sizeOf250
 v53:=Tryz.zeroValue250
 t55:=Tryz.underlying252
 a55:=Tryz.isAgg252
 z55:=Tryz.sizeOf252
 v55:=Tryz.zeroValue252
 t66:=Tryz.underlying298
 a66:=Tryz.isAgg298
 z66:=Tryz.sizeOf298
 v66:=Tryz.zeroValue298
 t70:=Tryz.underlying302
 a70:=Tryz.isAgg302
 z70:=Tryz.sizeOf302
 v70:=Tryz.zeroValue302
 t76:=Tryz.underlying332
 a76:=Tryz.isAgg332
 z76:=Tryz.sizeOf332
 v76:=Tryz.zeroValue332
 t77:=Tryz.underlying187
 a77:=Tryz.isAgg187
 z77:=Tryz.sizeOf187
 v77:=Tryz.zeroValue187}
end Go.Proofs
namespace Go.Rse
open Go Go.Proofs Go.Sort Go.RowKit Go.Proofs.Tryz
def chkB{P:Program}{w:World}{kt:TypeId}{b:Bool}(Z:P.underlying kt=some .bool)(e:Bool)(n:Nat):(Instr.checkKey e (n+1) kt (.bool b)).run P w=.ok () w:=by
 simp_all[Instr.checkKey,run_underlying]
def chk3{P:Program}{K:TypeId}(h:∃f1 f2 f3:Field,P.underlying K=some (.struct #[f1,f2,f3])/\(f1.name≠ "_" /\f2.name≠ "_" /\f3.name≠ "_")/\(P.plainKey f1.type=true/\P.plainKey f2.type=true/\P.plainKey f3.type=true)/\(f1.offset=0/\f2.offset=1/\f3.offset=2)/\P.underlying f1.type=some (.int .i64)/\P.underlying f2.type=some .bool/\P.underlying f3.type=some .bool)(em:Bool)(w:World)(a:Int)(b c:Bool):
 (Instr.checkKey em 10000 K (.agg #[.int .i64 a,.bool b,.bool c])).run P w=.ok () w:=by
 obtain⟨f1,f2,f3,Z,⟨h1,V,U⟩,⟨p1,p2,p3⟩,⟨o1,o2,o3⟩,u1,u2,u3⟩:=h;show(Instr.checkKey em (9998+1+1) K _).run P w=_;have k1:(Instr.checkKey em (9998+1) f1.type (.int .i64 a)).run P w=.ok () w:=MapKept.run_checkKey u1 (show MapKept.IsKey (.int .i64) (.int .i64 a)from rfl) em 9998;have k2:(Instr.checkKey em (9998+1) f2.type (.bool b)).run P w=.ok () w:=chkB u2 em 9998;have k3:(Instr.checkKey em (9998+1) f3.type (.bool c)).run P w=.ok () w:=chkB u3 em 9998;have q1:(part f1.type #[.int .i64 a,.bool b,.bool c] f1.offset).run P w=.ok (.int .i64 a) w:=run_part_plain w p1 (by rw[o1];rfl);have q2:(part f2.type #[.int .i64 a,.bool b,.bool c] f2.offset).run P w=.ok (.bool b) w:=run_part_plain w p2 (by rw[o2];rfl);have q3:(part f3.type #[.int .i64 a,.bool b,.bool c] f3.offset).run P w=.ok (.bool c) w:=run_part_plain w p3 (by rw[o3];rfl);rw[Instr.checkKey];simp_all[run_underlying]
def zrK(f:Fo):Value:=.agg #[.int .i64 f.v,.bool f.c,.bool f.d]
def zi3(I:Im)(ρ:Nat->Value)(x:Fo):RVL I ρ (foE x) [.int .i64 x.v,.bool x.c,.bool x.d]:=⟨rfl,λj c v Z hv=>by
 rcases j with _|_|_|j
 ·simp[foE]at Z hv;subst Z;subst hv;exact .int _ _
 ·simp[foE]at Z hv;subst Z;subst hv;exact .bool _
 ·simp[foE]at Z hv;subst Z;subst hv;exact .bool _
 ·simp[foE]at Z⟩
def znO:KeyL prog 150 (λf:Fo=>foA f) zrK where
 val:=λI ρ x v h=>by
  obtain⟨vs,rfl,hl,hv⟩:=zbK h
  match vs,hl with
  |[a,b,c],_=>
   have h1:=y5 (hv 0 _ a rfl rfl);have Z:=zr (hv 1 _ b rfl rfl);have V:=zr (hv 2 _ c rfl rfl)
   grind[zrK]
 of:=λI ρ x=>.agg _ [.int .i64 x.v,.bool x.c,.bool x.d] rfl (zi3 I ρ x).2
 chk:=λem w x=>chk3 ⟨_,_,_,Tryz.underlying150,by decide,⟨by kernel_rfl,by kernel_rfl,by kernel_rfl⟩,by decide,by kernel_rfl,by kernel_rfl,by kernel_rfl⟩ em w x.v x.c x.d
 wide:=by kernel_rfl
 eq:=λw x y=>zck (P:=prog) (t:=150) (d:=2) (w:=w) (I:=λ_ _=>none) (ρ:=noNames) (xs:=foE x) (ys:=foE y) (vs:=[.int .i64 x.v,.bool x.c,.bool x.d]) (us:=[.int .i64 y.v,.bool y.c,.bool y.d]) (by kernel_rfl) (by decide)
  (zi3 _ _ x) (zi3 _ _ y) (by kernel_rfl) (by kernel_rfl) (by kernel_rfl) (b:=decide (x=y)) (zun x y)
 stay:=λw x=>by simp[Instr.keyThatStays,Instr.sameBits,zrK]
def msF(l:List Fo):List Fo:=l.mergeSort (leOf foC)
def znP(l:List Fo)(hl:l.length<=4000000000):
 FnO prog 82 [.own 2000000,.fn 83 []] [(2000000,.row foE l 150 3)] [2000000] (.tup []) [(2000000,.row foE (msF l) 150 3)]:=
 ztc zj4 (by kernel_rfl) foE 3 (by decide) _ l hl (λ_=>True) foC _ Tryz.isAgg150 Tryz.sizeOf150 (λ_=>rfl)
  (λt c U=>by grind[foE,zoh]) (λx y _ _=>zgb x y) (λ_ _=>trivial)
  (λx _=>(zaS x x).2.2 rfl)
  (λx y z _ _ _ h1 V=>by simp_all[zaS];omega)
  (λx y z _ _ _ h1 V=>by
   have a:=zaS x y;have b:=zaS y z;grind[zaS])
  (λx y _ _ h1 V=>zpd (by
   have a1:¬foN x<foN y:=λZ=>by have:=(zaS x y).1.2 Z;omega
   have b1:¬foN y<foN x:=λZ=>by have:=(zaS y x).1.2 Z;omega
   omega))
  (λx y _ _=>by
   grind[zaS])
def zt7{m:Mn}{b:Bt}{h:Hb}{l:List Fo}(hn:l.Nodup)(hm:∀f,f∈l↔f∈fkL b h (allE m b.Dur)):msF l=frL m b h:=by
 refine zqi ?_ λf=>by unfold msF;rw[List.mem_mergeSort,hm]
 have Z:(msF l).Pairwise (λx y=>leOf foC x y=true):=by
  refine List.pairwise_mergeSort (λa b c h1 U=>?_) (λa b=>?_) l
  ·simp only[leOf,ltOf,wL,w5]at*
   have x1:=zaS a b;have x2:=zaS b c;have x3:=zaS a c;have y1:=zaS b a;have y2:=zaS c b;have y3:=zaS c a;omega
  ·have x1:=zaS a b;have x2:=zaS b a;simp only[leOf,ltOf,wJ,wL,w5];omega
 have hnm:(msF l).Nodup:=(List.mergeSort_perm _ _).nodup_iff.2 hn;refine List.Pairwise.imp_of_mem (λ{x y}_ _ V=>?_) (Z.and hnm)
 grind[zaS,zpd,ltOf,foL]
def zAZ{b:Bt}{h:Hb}{L:List Sp}{k:Nat}{s:Sp}(hs:L[k]? =some s):fkL b h (L.take (k+1))=fkL b h (L.take k)++fkS b h s:=by
 unfold fkL;rw[jG,hs];simp
def zys{b:Bt}{h:Hb}{s:Sp}(hn:¬s.Rest=b.Rest\/usQ s h=false):fkS b h s=[]:=by
 grind[fkS,slQ]
def zt8{b:Bt}{h:Hb}{s:Sp}(h1:s.Rest=b.Rest)(Z:usQ s h=true):fkS b h s=(if s.Dot then[]else[⟨s.Value,s.Color,false⟩])++(if h.Dots then[⟨s.Value,s.Color,true⟩]else[]):=by
 simp_all[fkS,slQ]
def zo3{b:Bt}{h:Hb}:∀L:List Sp,(fkL b h L).length<=2*L.length
 |[]=>by simp[fkL]
 |s::r=>by
  have ih:=zo3 (b:=b) (h:=h) r
  grind[fkS,fkL]
def zo4(m:Mn)(t:Tm):(allE m t).length<=72:=by
 grind[allE,zii]
def znQ{v:Int}{c d:Bool}:(AV.agg [iv v,.bool c,.bool d])=(λf:Fo=>foA f) ⟨v,c,d⟩:=rfl
def zA0{r:Bool}{L:List Fo}{k:Nat}{f:Fo}(h:L[k]? =some f):(L.take k).map (foS r)++[foS r f]=(L.take (k+1)).map (foS r):=by
 rw[jG,h];simp
attribute [local irreducible] Pur yy yz Ex X Fn Imp LeV LeB FnO It yH FnW FnOW FnP FnD
attribute [local irreducible] wcE btF ckT ckM allE bthE usQ fkL kyK ouK msF frL frV foS
def zdp(m:Mn)(b:Bt)(h:Hb):Fn prog 49 [mnA m,btA b,hbA h] (zeI (frV m b h)):=by
 have w2:=zo4 m b.Dur;have v9:[]=kyK (fkL b h ((allE m b.Dur).take 0)):=by unfold kyK fkL;rfl
 have v8:=zo3 (b:=b) (h:=h) (allE m b.Dur);have v5:=zs9 (fkL b h (allE m b.Dur));have v4:=zpg m b h;refine kR func49 ntmps49 (λg w d=>?_);refine gc (zmU m b.Dur) ?_;refine bE (zhz (k:=24) (λf:Fo=>foA f) AV.bool) rfl rfl ?_;refine yj ?_;apply yh;apply ye;refine yC ?_;apply kP;refine zm (λk=>[(4,.ptr 4 0 0 0),(5,.ptr 5 0 0 0),(9,.mp 24),(25,spsA (allE m b.Dur)),(26,iv ((allE m b.Dur).length:Int)),(27,iv (k:Int))]) (λk=>[(4,.box (btE b) 63),(5,.box (hbE h) 24),(24,.mpb (λf:Fo=>foA f) AV.bool (kyK (fkL b h ((allE m b.Dur).take k))))]) ((allE m b.Dur).length) (λk hk=>?_);refine gd ?_ ?_<;>intro v3
 ·have V:=@getX _ (allE m b.Dur) k (by omega);obtain⟨s,hs,v2⟩:=V;have H:=zAZ (b:=b) (h:=h) hs;apply yk;apply yh;apply kP;apply ye;iterate 2 refine ya ?_
  refine za ?_;refine kV ?_;apply kW;apply yh;apply ye;iterate 5 refine ya ?_
  refine kU 5 ?_;refine gq ?_;refine bJ (zlV s h) ?_;refine kS ?_;refine gf ?_ ?_<;>intro T
  ·have Z:kyK (fkL b h ((allE m b.Dur).take k))=kyK (fkL b h ((allE m b.Dur).take (k+1))):=by simp_all[zys]
   refine gq ?_;refine yu (k+1) (hI:=yg)
  have hy:=zt8 (b:=b) (h:=h) (s:=s) (by simpa using T.1) (by simpa using T.2);rw[hy]at H;refine gd ?_ ?_<;>intro v1
  ·refine gq ?_;refine zas (zd6 (q:=(⟨s.Value,s.Color,false⟩:Fo)) (venc:=AV.bool) true znO rfl rfl rfl znQ rfl rfl Tryz.underlying147 (λ_ _=>rfl)) ?_;refine gd ?_ ?_<;>intro v0
   ·have Z:kput (⟨s.Value,s.Color,true⟩:Fo) true (kput (⟨s.Value,s.Color,false⟩:Fo) true (kyK (fkL b h ((allE m b.Dur).take k))))=(kyK (fkL b h ((allE m b.Dur).take (k+1)))):=by simp_all[ziA]
    refine gq ?_;refine zas (zd6 (q:=(⟨s.Value,s.Color,true⟩:Fo)) (venc:=AV.bool) true znO rfl rfl rfl znQ rfl rfl Tryz.underlying147 (λ_ _=>rfl)) ?_;refine gq ?_;refine yu (k+1) (hI:=yg)
   ·have Z:kput (⟨s.Value,s.Color,false⟩:Fo) true (kyK (fkL b h ((allE m b.Dur).take k)))=(kyK (fkL b h ((allE m b.Dur).take (k+1)))):=by simp_all[ziA]
    refine gq ?_;refine yu (k+1) (hI:=yg)
  ·refine gd ?_ ?_<;>intro u4
   ·have Z:kput (⟨s.Value,s.Color,true⟩:Fo) true (kyK (fkL b h ((allE m b.Dur).take k)))=(kyK (fkL b h ((allE m b.Dur).take (k+1)))):=by simp_all[ziA]
    refine gq ?_;refine zas (zd6 (q:=(⟨s.Value,s.Color,true⟩:Fo)) (venc:=AV.bool) true znO rfl rfl rfl znQ rfl rfl Tryz.underlying147 (λ_ _=>rfl)) ?_;refine gq ?_;refine yu (k+1) (hI:=yg)
   ·have Z:(kyK (fkL b h ((allE m b.Dur).take k)))=(kyK (fkL b h ((allE m b.Dur).take (k+1)))):=by simp_all
    refine gq ?_;refine yu (k+1) (hI:=yg)
 ·obtain rfl:k=(allE m b.Dur).length:=by omega
  have u3:kyK (fkL b h ((allE m b.Dur).take (allE m b.Dur).length))=kyK (fkL b h (allE m b.Dur)):=by simp
  have u2:=zz9 (kyK (fkL b h (allE m b.Dur)));apply bA;apply yh;refine kT (st':=⟨[(4,.ptr 4 0 0 0),(9,.mp 24)],[(4,.box (btE b) 63),(24,.mpb (λf:Fo=>foA f) AV.bool (kyK (fkL b h (allE m b.Dur))))]⟩) yg ?_;apply yf;refine yj ?_;iterate 2 apply yh
  refine kT (yG foE 150 3 12 30 rfl rfl) ?_;apply yf;refine ya ?_;refine zze (K:=150) (E:=4) 1000002 (λkb bm=>?_) (ht:=Tryz.underlying147);refine gq ?_;refine zen (ι:=Array Nat) (λ(s:Array Nat)=>[(4,.ptr 4 0 0 0),(9,.mp 24),(12,.own 30),(61,.val (.pointer (some ⟨kb,0,none⟩)))]) (λ(s:Array Nat)=>[(1000002,.hold [.map (some bm)] [.mp 24]),(61,.obj kb (.mapIter (some bm) (kyK (fkL b h (allE m b.Dur))).length s (kyK (fkL b h (allE m b.Dur))).length)),(4,.box (btE b) 63),(24,.mpb (λf:Fo=>foA f) AV.bool (kyK (fkL b h (allE m b.Dur)))),(30,.row foE (ouK (kyK (fkL b h (allE m b.Dur))) s) 150 3)]) (λ(s:Array Nat)=>RnJ (kyK (fkL b h (allE m b.Dur))).length s) (λ(s:Array Nat)=>(kyK (fkL b h (allE m b.Dur))).length-s.size) #[] (λs hk=>?_) (hJ:=by exact zz8 _) (h0:=by exact yg);have hJ:=hk;apply ye;refine Ex.nxt (k:=24) (kb:=61) (kh:=1000002) (λmo i G xT=>?_);refine gd ?_ ?_<;>intro N
  ·subst N;have x4:=xT rfl;obtain⟨U,J⟩:=x4;obtain⟨p,hp⟩:∃p,(kyK (fkL b h (allE m b.Dur)))[i]? =some p:=⟨_,lgg U⟩;have u1:=zAa (s:=s) hp;have k9:=zog (kyK (fkL b h (allE m b.Dur))) s;have k8:=hJ.le;apply yk;apply kP;apply ye;refine ya (x:=.tup [foA p.1,.bool p.2]) (hs:=zuJ (kb:=61) (kh:=1000002) p hp rfl rfl rfl rfl (λ_ _=>rfl) (λ_ _=>rfl)) ?_;refine gq ?_;refine yD foE [p.1] ?_;refine gq ?_;refine yu (s.push i) (hJ:=by exact hJ.s U J) (hm:=by have h9:=(hJ.s U J).le;grind) (hI:=yg)
  ·subst N;have x3:=zta hJ (G rfl);obtain⟨x2,x1⟩:=x3;have w9:=zt7 x2 x1;refine gq ?_;refine zZ [(2000000,30)] (znP (ouK (kyK (fkL b h (allE m b.Dur))) s) (by rw[zog];have:=hJ.le;omega)) ?_;apply kW;apply yh;refine kT (st':=⟨[(4,.ptr 4 0 0 0),(12,.own 30)],[(4,.box (btE b) 63),(30,.row foE (frL m b h) 150 3)]⟩) yg ?_;apply yf;refine yj ?_;(iterate 2 apply yh);refine kT (yG sgsE 35 1 14 31 rfl rfl) ?_;apply yf;refine yC ?_;apply kP;refine zm (λq=>[(4,.ptr 4 0 0 0),(14,.own 31),(72,.own 30),(73,iv ((frL m b h).length:Int)),(74,iv (q:Int))]) (λq=>[(4,.box (btE b) 63),(30,.row foE (frL m b h) 150 3),(31,.row sgsE (((frL m b h).take q).map (foS b.Rest)) 35 1)]) ((frL m b h).length) (λq hk=>?_);refine gd ?_ ?_<;>intro k7
   ·have V:=@getX _ (frL m b h) q (by omega);obtain⟨f,hf,x0⟩:=V;have k6:=zA0 (r:=b.Rest) hf;have k5:(((frL m b h).take q).map (foS b.Rest)).length<=32:=by grind
    apply yk;apply yh;apply kP;apply ye;refine ya ?_;refine zo (ze2 rfl rfl x0 rfl rfl zw2) rfl ?_;refine gq ?_;refine yR (zgc f b.Rest) ?_;refine yD sgsE [foS b.Rest f] ?_;refine gq ?_;refine yu (q+1) (hI:=yg)
   ·obtain rfl:q=(frL m b h).length:=by omega
    have hV:((frL m b h).take (frL m b h).length).map (foS b.Rest)=frV m b h:=by simp[frV]
    apply bA;apply ye;refine yQ ?_;refine kQ ?_;refine kM (kL (k:=31) rfl) ?_;refine gq ?_;all_goals(exact j9 (λz=>zeI z) hV)
end Go.Rse
namespace Go.Rse
open Go Go.Proofs Go.Proofs.Tryz
def fmV(m:Mn)(b:Bt)(h:Hb):List (List Sg):=if wcE m [b]=0 then frV m b h else[]
theorem zrL{m:Mn}{l:List Bt}{h:Hb}(c:¬wcE m l=0):wcnE m l h=wcE m l/\wcnV m l h=0:=by
 have e:wcnE m l h=wcE m l:=by unfold wcnE;rw[j7 c]
 exact⟨e,by unfold wcnV;rw[e,j7 c]⟩
def zwx{m:Mn}{l:List Bt}{h:Hb}(c:wcE m l=0)(c2:12<l.length):wcnE m l h=11/\wcnV m l h=0:=by
 have e:wcnE m l h=11:=by unfold wcnE;rw[j6 c,j6 c2]
 exact⟨e,by unfold wcnV;rw[e];rfl⟩
def zrM{m:Mn}{l:List Bt}{h:Hb}(c:wcE m l=0)(c2:¬12<l.length)(c3:4096<cnP m h l):wcnE m l h=15/\wcnV m l h=0:=by
 have e:wcnE m l h=15:=by unfold wcnE;rw[j6 c,j7 c2,j6 c3]
 exact⟨e,by unfold wcnV;rw[e];rfl⟩
def zo5{m:Mn}{l:List Bt}{h:Hb}(c:wcE m l=0)(c2:¬12<l.length)(c3:¬4096<cnP m h l):wcnE m l h=0/\wcnV m l h=(cnP m h l:Int):=by
 have e:wcnE m l h=0:=by unfold wcnE;rw[j6 c,j7 c2,j7 c3]
 exact⟨e,by unfold wcnV;rw[e];rfl⟩
def zyt{m:Mn}{h:Hb}{l:List Bt}{k:Nat}{b:Bt}(hi:l[k]? =some b):((cnP m h (l.take k):Nat):Int)*((frV m b h).length:Int)=((cnP m h (l.take (k+1)):Nat):Int):=by
 rw[zBz hi];simp
def zA1{m:Mn}{h:Hb}{l:List Bt}{k:Nat}{b:Bt}(hi:l[k]? =some b):chV m (l.take k) h++[frV m b h]=chV m (l.take (k+1)) h:=by
 unfold chV;rw[jG,hi];simp
def zig(m:Mn)(l:List Bt)(h:Hb):(chV m l h).length=l.length:=by unfold chV;simp
def rsL(l:List Sg):List Bool:=(l.filter λs=>!decide (s.Kind=3)).map λs=>decide (s.Kind=2)
def zlJ{l:List Sg}{k:Nat}{s:Sg}(h:l[k]? =some s)(Z:s.Kind=3):rsL (l.take k)=rsL (l.take (k+1)):=by
 unfold rsL;rw[jG,h];simp[Z]
def zlK{l:List Sg}{k:Nat}{s:Sg}(h:l[k]? =some s)(Z:¬s.Kind=3):rsL (l.take k)++[decide (s.Kind=2)]=rsL (l.take (k+1)):=by
 unfold rsL;rw[jG,h];simp[Z]
def zo6(l:List Sg):(rsL l).length<=l.length:=by
 unfold rsL;rw[jS];exact wZ _ _
def wisE(m:Mn)(l:List Bt)(r:List Sg):Int:=if wcE m l=0 then ckD m r else wcE m l
def wisB(m:Mn)(l:List Bt)(r:List Sg):Bool:=if wisE m l r=0 then decide (l.map (·.Rest)=rsL r)&&reQ m r (durB l)else false
def zEy{m:Mn}{l:List Bt}{r:List Sg}(c:¬wcE m l=0):wisE m l r=wcE m l/\wisB m l r=false:=by
 have e:wisE m l r=wcE m l:=by unfold wisE;rw[j7 c]
 exact⟨e,by unfold wisB;rw[e,j7 c]⟩
def zEz{m:Mn}{l:List Bt}{r:List Sg}(c:wcE m l=0)(c2:¬ckD m r=0):wisE m l r=ckD m r/\wisB m l r=false:=by
 have e:wisE m l r=ckD m r:=by unfold wisE;rw[j6 c]
 exact⟨e,by unfold wisB;rw[e,j7 c2]⟩
def zEA{m:Mn}{l:List Bt}{r:List Sg}(c:wcE m l=0)(c2:ckD m r=0):wisE m l r=0/\wisB m l r=(decide (l.map (·.Rest)=rsL r)&&reQ m r (durB l)):=by
 have e:wisE m l r=0:=by unfold wisE;rw[j6 c,c2]
 exact⟨e,by unfold wisB;rw[j6 e]⟩
def zA2{l:List Bt}{R:List Bool}{k:Nat}{b:Bt}{r:Bool}(Z:l[k]? =some b)(hr:R[k]? =some r)(h:(l.take k).map (·.Rest)=R.take k)(e:b.Rest=r):(l.take (k+1)).map (·.Rest)=R.take (k+1):=by
 rw[jG,Z,jG,hr];simp[h,e]
def zyu{l:List Bt}{R:List Bool}{k:Nat}{b:Bt}{r:Bool}(Z:l[k]? =some b)(hr:R[k]? =some r)(e:¬b.Rest=r):¬l.map (·.Rest)=R:=λh=>by
 have h1:(l.map (·.Rest))[k]? =some b.Rest:=by rw[jN,Z];rfl
 rw[h,hr]at h1;injection h1 with h1;exact e h1.symm
attribute [local irreducible] Pur yy yz Ex X Fn Imp LeV LeB FnO It yH FnW FnOW FnP FnD
attribute [local irreducible] wcE btF ckT ckM ckD frV wcnE wcnV cnP chV durB rdE rdV rsL wisE wisB
def zfI(m:Mn)(b:Bt)(h:Hb):Fn prog 16 [mnA m,btA b,hbA h] (.tup [zeI (fmV m b h),iv (wcE m [b])]):=by
 refine kR func16 ntmps16 (λg w d=>?_);refine gq ?_;refine bE (yr (enc:=btE) (l:=[b]) sl29 ty63 ze63 (by decide) rfl rfl rfl rfl (by decide) (by decide) (λ_=>rfl) rfl) rfl rfl ?_;refine gc (zb8 m [b] (by simp)) ?_;refine gd ?_ ?_<;>intro Z
 ·have V:fmV m b h=[]:=by unfold fmV;rw[j7 Z]
  apply ye;refine yC ?_;refine kQ ?_;refine kM (yd (ts:=[(6,zeI []),(7,iv (wcE m [b]))]) (hs:=[])) ?_;refine yl ?_ ?_;all_goals(first|exact zE V|rfl)
 have h0:wcE m [b]=0:=by omega
 have V:fmV m b h=frV m b h:=by unfold fmV;rw[j6 h0]
 refine gc (zdp m b h) ?_;refine yl ?_ ?_;all_goals(first|exact j9 (λz=>zeI z) V.symm|exact j9 (AV.int .i64) h0.symm)
def zfJ(m:Mn)(l:List Bt)(h:Hb)(hl:l.length<=4000000000):Fn prog 32 [mnA m,btsA l,hbA h] (.tup [iv (wcnV m l h),iv (wcnE m l h)]):=by
 have xT:(1:Int)=((cnP m h (l.take 0):Nat):Int):=by unfold cnP;rfl
 refine kR func32 ntmps32 (λg w d=>?_);refine gc (zb8 m l hl) ?_;refine gd ?_ ?_<;>intro T
 ·have N:=zrL (h:=h) T;obtain⟨hE,Z⟩:=N;refine gq ?_;refine yl ?_ ?_;all_goals(first|exact zE Z|exact zE hE|(rw[Z,V];done))
 have h0:wcE m l=0:=by omega
 refine gd ?_ ?_<;>intro x4
 ·have J:=zwx (h:=h) h0 (by omega);obtain⟨hE,Z⟩:=J;refine gq ?_;refine yl ?_ ?_;all_goals(first|exact zE Z|exact zE hE|(rw[Z,V];done))
 have U:¬12<l.length:=by omega
 apply yk;apply ye;refine yj ?_;apply yh;apply ye;refine yC ?_;apply kP;refine zm (λk=>[(3,.ptr 3 0 0 0),(5,.ptr 5 0 0 0),(9,iv ((cnP m h (l.take k):Nat):Int)),(21,btsA l),(22,iv (l.length:Int)),(23,iv (k:Int))]) (λk=>[(3,.box (mnE m) 27),(5,.box (hbE h) 24)]) l.length (λk hk=>?_);refine gd ?_ ?_<;>intro x3
 ·have H:=@getX _ l k (by omega);obtain⟨b,hb,x2⟩:=H;have hs:=zyt (m:=m) (h:=h) hb;have hq:=zyK (m:=m) (h:=h) (l:=l) (by omega) (k+1);have hf:=zg0 m b h;refine gc (zdp m b h) ?_;refine yu (k+1) (hI:=yg)
 ·obtain rfl:k=l.length:=by omega
  have V:cnP m h (l.take l.length)=cnP m h l:=by rw[jK]
  refine gd ?_ ?_<;>intro x1
  ·have G:=zrM (h:=h) h0 U (by omega);obtain⟨hE,Z⟩:=G;refine gq ?_;refine yl ?_ ?_;all_goals(first|exact zE Z|exact zE hE|(rw[Z,V];done))
  have E:=zo5 (h:=h) h0 U (by omega);obtain⟨hE,Z⟩:=E;refine gq ?_;refine yl ?_ ?_;all_goals(first|exact zE Z|exact zE hE|(rw[Z,V];done))
def zd9(m:Mn)(l:List Bt)(h:Hb)(hl:l.length<=1000000):Fn prog 35 [mnA m,btsA l,hbA h] (chsA (chV m l h)):=by
 have V:[]=chV m (l.take 0) h:=by unfold chV;rfl
 refine kR func35 ntmps35 (λg w d=>?_);apply ye;iterate 2 refine zz ?_
 refine ya ?_;apply yE;refine yj ?_;iterate 2 apply yh
 refine kT (yG zpc 56 1 7 30 rfl rfl) ?_;apply yf;refine yC ?_;apply kP;refine zm (λk=>[(3,.ptr 3 0 0 0),(5,.ptr 5 0 0 0),(7,.own 30),(10,btsA l),(11,iv (l.length:Int)),(12,iv (k:Int))]) (λk=>[(3,.box (mnE m) 27),(5,.box (hbE h) 24),(30,.row zpc (chV m (l.take k) h) 56 1)]) l.length (λk hk=>?_);refine gd ?_ ?_<;>intro U
 ·have Z:=@getX _ l k (by omega);obtain⟨b,T,N⟩:=Z;have hs:=zA1 (m:=m) (h:=h) T;have J:(chV m (l.take k) h).length<=1000000:=by rw[zig,jO];omega
  refine gq ?_;refine yR (zdp m b h) ?_;refine yD zpc [frV m b h] ?_;refine gq ?_;refine yu (k+1) (hI:=yg)
 ·obtain rfl:k=l.length:=by omega
  have H:chV m (l.take l.length) h=chV m l h:=by rw[jK]
  apply bA;apply ye;refine yQ ?_;refine kQ ?_;refine kM (kL (k:=30) rfl) ?_;refine gq ?_;all_goals(exact j9 (λz=>chsA z) H)
def zak(l:List Bt)(R:List Bool)(hl:l.length<=4000000000):Fn prog 39 [btsA l,zaX R,.fn 40 []] (.bool (decide (l.map (·.Rest)=R))):=by
 refine kR func39 ntmps39 (λg w d=>?_);refine gd ?_ ?_<;>intro U
 ·have T:decide (l.map (·.Rest)=R)=false:=by rw[w5];intro e;rw[←e,jS]at U;exact U rfl
  refine gq ?_;all_goals rw[T]
 have J:l.length=R.length:=by omega
 apply yk;apply yh;apply ye;refine yC ?_;apply kP;refine zW (λk=>[(1,zaX R),(2,.fn 40 []),(15,btsA l),(16,iv (l.length:Int)),(17,iv (k:Int))]) (λk=>[]) (λk=>k<=l.length/\(l.take k).map (·.Rest)=R.take k) l.length (λk hk=>?_) (hJ:=by exact⟨by omega,by simp⟩);obtain⟨G,Z⟩:=hk;refine gd ?_ ?_<;>intro E
 ·have V:=@getX _ l k (by omega);obtain⟨b,H,xT⟩:=V;have V:=@getX _ R k (by omega);obtain⟨r,hr,x4⟩:=V;refine gc (zlX b r) ?_;refine gd ?_ ?_<;>intro N
  ·have T:decide (l.map (·.Rest)=R)=false:=by rw[w5];exact zyu H hr (by simpa using N)
   refine gq ?_;all_goals rw[T]
  refine gq ?_;refine yu (k+1) (hJ:=by exact⟨by omega,zA2 H hr Z (by simpa using N)⟩) (hI:=yg)
 ·obtain rfl:k=l.length:=by omega
  have T:decide (l.map (·.Rest)=R)=true:=by rw[jZ];rw[jK,J,jK]at Z;exact Z
  refine gq ?_;all_goals rw[T]
end Go.Rse
namespace Go.Rse
open Go Go.Proofs Go.Proofs.Tryz
def hbN(n:Int):Hb:=⟨!decide (andI n 4=0),!decide (andI n 2=0),!decide (andI n 1=0)⟩
def zbV(D:List Tm)(R:List Bool):List Bt:=List.zipWith Bt.mk D R
def zA3(D:List Tm):[]=zbV D []:=by unfold zbV;simp
def zwy:∀{R:List Bool}{D:List Tm}{t:Tm}{r:Bool},D[R.length]? =some t->zbV D R++[⟨t,r⟩]=zbV D (R++[r])
 |[],D,t,r,h=>by
  cases D with
  |nil=>simp at h
  |cons x D=>simp at h;subst h;simp[zbV]
 |y::R,D,t,r,h=>by
  cases D with
  |nil=>simp at h
  |cons x D=>
   have:=zwy (R:=R) (D:=D) (t:=t) (r:=r) (by simpa using h);unfold zbV at*
   simp only[List.zipWith_cons_cons,uL,this]
def zlL(D:List Tm)(R:List Bool)(h:R.length<=D.length):(zbV D R).length=R.length:=by unfold zbV;rw[List.length_zipWith];omega
def znR(l:List Sg)(k:Nat):(rsL (l.take k)).length<=(rsL l).length:=by
 have:l.take k++l.drop k=l:=wB k l;rw[←this];unfold rsL;simp[wB];have Z:(l.filter λs=>!decide (s.Kind=3))=((l.take k).filter λs=>!decide (s.Kind=3))++((l.drop k).filter λs=>!decide (s.Kind=3)):=by rw[←uF,wB]
 rw[Z,jC];omega
def zrN{m:Mn}:∀(L:List Int)(l:List Ite)(C:List Int),(lvF m L l C).2.2=0->(lvF m L l C).2.1.length=l.length
 |[],l,C,_=>rfl
 |k::r,l,C,h0=>by
  unfold lvF at h0⊢;split at h0
  ·rename_i h;rw[j6 h];have:=zrN (m:=m) r (apV m k l (cuV m k l)) (C++cuV m k l) h0;rw[zlG (zkn h)]at this;exact this
  ·rename_i h;exact absurd h0 h
def zyv{m:Mn}{l:List Ite}(h:leE m l=0):(leI m l).length=l.length:=by
 unfold leI;rw[j6 h];unfold leE at h;split at h
 ·split at h
  ·exact zrN _ _ _ h
  ·rename_i Z;exact absurd h Z
 ·rename_i Z;exact absurd h Z
def zlM(l:List Sg):∀k,ntN l k=(rsL (l.take k)).length
 |0=>by unfold rsL;rfl
 |k+1=>by
  unfold ntN;cases h:l[k]? with
  |none=>
   have h1:=List.getElem?_eq_none_iff.1 h;rw[wC (by omega:l.length<=k+1),zlM l k,wC h1]
  |some s=>
   by_cases Z:s.Kind=3
   ·show(if s.Kind=3 then ntN l k else ntN l k+1)=_;rw[j6 Z,zlM l k,zlJ h Z]
   ·show(if s.Kind=3 then ntN l k else ntN l k+1)=_;rw[j7 Z,zlM l k,←zlK h Z,jC];rfl
def zrO{m:Mn}{l:List Sg}(h:rdE m l=0):(rdV m l).Durs.length=(rsL l).length:=by
 have Z:ckD m l=0:=by
  apply jV;intro hn;unfold rdE at h;rw[j7 hn]at h;exact hn h
 have he:leE m (rdI m l)=0:=by unfold rdE at h;rw[j6 Z]at h;exact h
 unfold rdV;rw[j6 h];show((leI m (rdI m l)).map _).length=_;rw[jS,zyv he];unfold rdI;rw[zhf (zqP Z),zfQ,zlM,jK]
def bsV(m:Mn)(l:List Sg):List Bt:=if rdE m l=0 then zbV (rdV m l).Durs (rsL l)else[]
attribute [local irreducible] Pur yy yz Ex X Fn Imp LeV LeB FnO It yH FnW FnOW FnP FnD
attribute [local irreducible] wcE btF ckT ckM ckD frV wcnE wcnV cnP chV durB rdE rdV rsL wisE wisB zbV andI
end Go.Rse
namespace Go.Rse
open Go Go.RowKit Go.Proofs.Tryz
section
variable{P:Program}{C:Ctx}{st:St}{ty:TypeId}{Q:Exit->St->Prop}
end
end Go.Rse
namespace Go.Rse
open Go Go.Proofs Go.Proofs.Tryz
attribute [local irreducible] Pur yy yz Ex X Fn Imp LeV LeB FnO It yH FnW FnOW FnP FnD
end Go.Rse
namespace Go.Rse
open Go Go.Proofs Go.Proofs.Tryz
def wuL:List (List (List Sg))->List Sg->List (List Sg)
 |[],r=>[r]
 |f::F,r=>f.flatMap λx=>wuL F (r++x)
attribute [local irreducible] Pur yy yz Ex X Fn Imp LeV LeB FnO It yH FnW FnOW FnP FnD
attribute [local irreducible] wuL
end Go.Rse
namespace Go.Rse
open Go Go.Proofs Go.Proofs.Tryz
def fmL(m:Mn)(l:List Bt)(h:Hb):List (List (List Sg)):=l.map λb=>fmV m b h
def wyL(m:Mn)(l:List Bt)(h:Hb):List (List Sg):=(wuL (fmL m l h) []).filter λx=>reQ m x (durB l)
def wyX(m:Mn)(l:List Bt)(h:Hb):List (List AV):=(wyL m l h).map λx=>[sgsA x]
attribute [local irreducible] Pur yy yz Ex X Fn Imp LeV LeB FnO It yH FnW FnOW FnP FnD
attribute [local irreducible] wuL wyX wyL fmL fmV durB wcE wcnE wcnV rdE rdV
end Go.Rse
namespace Go.Rse
open Go Go.Proofs Go.Proofs.Tryz
attribute [local irreducible] Pur yy yz Ex X Fn Imp LeV LeB FnO It yH FnW FnOW FnP FnD
attribute [local irreducible] wuL wyX wyL fmL fmV durB wcE wcnE wcnV rdE rdV
end Go.Rse
namespace Go.Rse
open Go Go.Proofs Go.Proofs.Tryz
attribute [local irreducible] Pur yy yz Ex X Fn Imp LeV LeB FnO It yH FnW FnOW FnP FnD
attribute [local irreducible] wcE wcnE wcnV rdE rdV bsV ckD orV cmpI
end Go.Rse
namespace Go.Rse
open Go Go.Proofs Go.Proofs.Tryz
def wq(m:Mn)(z:List Bt)(v:Int):Bool:=decide (¬(wyX m z (hbN v)).length=0)
def hv(m:Mn)(z:List Bt)(n v:Nat):Bool:=decide (v<n)&&wq m z (v:Int)
attribute [local irreducible] Pur yy yz Ex X Fn Imp LeV LeB FnO It yH FnW FnOW FnP FnD
attribute [local irreducible] hbN wcE wcnE wcnV wq hv wyX andI
end Go.Rse
namespace Go.Rse
open Go Go.Proofs Go.Proofs.Tryz
abbrev dtS:Sg:=⟨3,0,0,0,false,0,false,false,⟨0,0,0,0⟩,false,0,0,0,0⟩
attribute [local irreducible] Pur yy yz Ex X Fn Imp LeV LeB FnO It yH FnW FnOW FnP FnD
attribute [local irreducible] wcE wcnE rdE rdV bsV
end Go.Rse
namespace Go.Rse
open Go Go.Proofs Go.Proofs.Tryz
attribute [local irreducible] Pur yy yz Ex X Fn Imp LeV LeB FnO It yH FnW FnOW FnP FnD
attribute [local irreducible] hbN wcnE
end Go.Rse
namespace Go.Rse
open Go Go.Proofs Go.Proofs.Tryz
end Go.Rse
namespace Go.Rse
open Go Go.Proofs Go.Proofs.Tryz
attribute [local irreducible] Pur yy yz Ex X Fn Imp LeV LeB FnO It yH FnW FnOW FnP FnD
attribute [local irreducible] wcnE gI
end Go.Rse
namespace Go.Rse
open Go Go.Proofs Go.Proofs.Tryz
attribute [local irreducible] Pur yy yz Ex X Fn Imp LeV LeB FnO It yH FnW FnOW FnP FnD
attribute [local irreducible] wcnE gI rdE bsV
end Go.Rse
namespace Go.Rse
open Go Go.Proofs Go.Proofs.Tryz
def fE(m:Mn)(v:Int):Int:=(yw m v).N*8/(yw m v).D
def feOk(m:Mn)(v:Int):Bool:=decide ((yw m v).N*8=fE m v*(yw m v).D)&&decide (1<=fE m v)&&decide (fE m v<=648)&&decide (ckT (yw m v)=0)&&decide ((yw m v).D<=8)&&decide ((yw m v).N<=81)&&decide (1<=(yw m v).N)&&
 (decide (v=8)||decide (fE m v=m.p v*fE m (v+1)))&&(decide (¬v=8)||decide (fE m v=1))&&(decide (¬v=1)||decide (128<=fE m v))&&decide (m.p v<=3)
theorem zrP:zdc feOk=true:=by kernel_rfl
structure FE(m:Mn)(v:Int):Prop where
 e:(yw m v).N*8=fE m v*(yw m v).D
 b1:1<=fE m v
 b2:fE m v<=648
 ck:ckT (yw m v)=0
 d:(yw m v).D<=8
 n:(yw m v).N<=81
 n1:1<=(yw m v).N
 p:v=8\/fE m v=m.p v*fE m (v+1)
 l:¬v=8\/fE m v=1
 g:¬v=1\/128<=fE m v
 p3:m.p v<=3
def zA4{m:Mn}{v:Int}(hm:ckM m=0)(h1:1<=v)(Z:v<=8):FE m v:=by
 grind[zab,zrP,feOk,FE]
end Go.Rse
namespace Go.Rse
open Go Go.Proofs Go.RowKit Go.Proofs.Tryz
section
variable{P:Program}{C:Ctx}{st:St}{ty:TypeId}
end
attribute [local irreducible] Pur yy yz Ex X Fn Imp LeV LeB FnO It yH
attribute [local irreducible] yw sumE sumV mMk
end Go.Rse
namespace Go.Rse
open Go Go.Proofs Go.Proofs.Tryz
attribute [local irreducible] Pur yy yz Ex X Fn Imp LeV LeB FnO It yH
attribute [local irreducible] yw durT mulV mulE subV subE
end Go.Rse
namespace Go.Rse
end Go.Rse
namespace Go.Rse
open Go Go.Proofs Go.Sort Go.Proofs.Tryz
def ltT(s t:Tm):Prop:=s.N*t.D<t.N*s.D
instance(s t:Tm):Decidable (ltT s t):=inferInstanceAs(Decidable (_<_))
def zt9(s:Tm):¬ltT s s:=by unfold ltT;omega
end Go.Rse
namespace Go.Rse
open Go Go.Proofs Go.Proofs.Tryz
attribute [local irreducible] Pur yy yz Ex X Fn Imp LeV LeB FnO It yH
attribute [local irreducible] yw durT mulV wdL
end Go.Rse
namespace Go.Rse
open Go Go.Proofs Go.RowKit Go.Proofs.Tryz
attribute [local irreducible] Pur yy yz Ex X Fn Imp LeV LeB FnO It yH
def zwz(l L:List Tm):Bool:=(l.all λx=>decide (ckT x=0)&&decide (x∈L))&&(L.all λx=>decide (x∈l))&&decide (L.Pairwise ltT)
attribute [local irreducible] wdL
end Go.Rse
namespace Go.Rse
open Go Go.Proofs Go.RowKit Go.Proofs.Tryz
attribute [local irreducible] Pur yy yz Ex X Fn Imp LeV LeB FnO It yH
def zcT(X:List Sp)(s:Sp)(t:Tm)(L:List Tm)(q:Nat):List Sp:=if t∈L.take q then X++[s]else X
def zyw(X:List Sp)(s:Sp)(t:Tm)(L:List Tm):X=zcT X s t L 0:=by simp[zcT]
def zrQ{X:List Sp}{s:Sp}{t:Tm}{L:List Tm}{q:Nat}{u:Tm}(h:L[q]? =some u)(e:u=t)(U:L.Pairwise ltT):zcT X s t L q++[s]=zcT X s t L (q+1):=by
 subst e
 have hn:¬u∈L.take q:=λhm=>by
  obtain⟨i,hi⟩:=jQ.1 hm;rw[wI]at hi;split at hi
  ·rename_i Z;have h1:=j5.1 hi;have V:=j5.1 h;have:=uT.1 U i q h1.1 V.1 Z;rw[h1.2,V.2]at this;exact zt9 _ this
  ·simp at hi
 simp_all[zcT,jG]
def zua{X:List Sp}{s:Sp}{t:Tm}{L:List Tm}{q:Nat}{u:Tm}(h:L[q]? =some u)(e:¬u=t):zcT X s t L q=zcT X s t L (q+1):=by
 grind[zcT,List.take_add_one]
def zrR(X:List Sp)(s:Sp)(t:Tm)(L:List Tm)(q:Nat):(zcT X s t L q).length<=X.length+1:=by
 grind[zcT]
def zrS{m:Mn}{v:Int}{t:Tm}{i:Nat}{L:List Tm}(Z:∀x,x∈L↔x∈wdL m v (1+(i:Int)).toNat)(X:List Sp):zcT (X++alI m t v (1+i)) (spOf v (1+(i:Int))) t L L.length=X++alI m t v (1+(i+1)):=by
 grind[zcT,zo7,znS]
attribute [local irreducible] yw durT mulV wdL allE bthE alO alI mMk gI zcT
end Go.Rse
