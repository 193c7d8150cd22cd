/- Part 10. -/
import Derived.Test.YtloldofjddbjoaaGreatJ9
set_option linter.all false
set_option maxHeartbeats 8000000
set_option maxRecDepth 100000
namespace Go.Proofs.YtloldofjddbjoaaGreat
open Go.Sep Go.RowKit Tryz
variable {x:HQ} {B n i j nb nf b off:Nat} {l:cp} {α:Type} {v va:d0} {t T:d4}
def SF (l:List Lt.Wt) (b:Nat) (t:Int) (o:l.length<=65536):Df prog 188 [va,.func (.func 131) #[] #[pV b]] Tr [AG va 241 Lt.RU l,Ac b 3 [aa t]] (λz:Int=>aa z) (λz=>0<=z↔∃y∈l,y.1=t) (λ_=>[AG va 241 Lt.RU l,Ac b 3 [aa t]]):=by
 intro w j g;refine Ey func188 I g<|Y I<|A I<|E<|Y I<|r I<|U I (AM I Fa I ur)<|uG ?_;refine Bm (λ(k:Nat)=>[(0,va),(1,.func (.func 131) #[] #[pV b]),(7,aa (l.length:Int)),(8,aa (k:Int))]) (λ(k:Nat)=>St w (dom [AG va 241 Lt.RU l,Ac b 3 [aa t]]) [AG va 241 Lt.RU l,Ac b 3 [aa t]]) (λ(k:Nat)=>k<=l.length/\∀z∈l.take k,¬z.1=t) (λ(k:Nat)=>l.length-k) (0) ⟨qc _,A3⟩ (Si I) Ih<|λk f=>E ?_
 obtain⟨m,x⟩:=f;refine Cr I<|U I (Ql I)<|Ns<|CB 9 I (λd=>?_)<|λd=>?_
 .obtain⟨y,c⟩:=gE l k;refine Am I<|Ah<|Ks<|Af<|Y I<|r I<|A I<|Y I<|C 3 I<|U I (Aw k I Fa Jj I ur I I)<|U I (Bc k I isAgg241 Jj I I ur c)<|AD<|Z I<|Hr (β:=Unit) (X':=λ_=>St w _ [Ac b 3 [aa t],AG va 241 Lt.RU l]) (v:=λ_=>.bool<|decide (y.1=t)) (p:=λ_=>True) I I I I call131 I (λn h=>Df.frame (F:=[AG va 241 Lt.RU l]) (Z6 y b t) h trivial)<|λ_ _=>G<|CB 16 I (λa=>?_)<|λa=>?_
  .exact Am I<|Y I<|r I<|A I<|s<|AA<|Ag<|Ag<|AA<|Ag<|AD<|Av I I<|λ_ h=>⟨(k:Int),rfl,⟨λ_=>⟨y,ry c,a⟩,λ_=>Int.natCast_nonneg k⟩,h⟩
  refine Ab I (Ah<|Au<|Kt<|Cr I<|U I (Qi I)<|r I<|AE<|AD ?_);exact AJ (k+1) J ⟨J,lH x c a⟩ (Si I) Jx
 exact Ab I<|AP<|Aa<|Aa<|Ar<|Kt<|Y I<|A I<|s<|Av I I<|λ_ h=>⟨-1,rfl,⟨λi=>absurd i A2,fun⟨z,hz,e⟩=>absurd e<|by rw[pZ J] at x;exact x z hz⟩,h⟩
def XfC (l:List Lt.Wt) (b:Nat) (t:Int) (y:l.length<=65536):Df prog 129 [va,.func (.func 131) #[] #[pV b]] Tr [AG va 241 Lt.RU l,Ac b 3 [aa t]] (λ_:Unit=>.bool<|decide (t∈l.map Prod.fst)) Tr (λ_=>[AG va 241 Lt.RU l,Ac b 3 [aa t]]):=by
 intro w c a;refine Ey func129 I a ?_;exact Y I<|A I<|Y I<|C 2 I<|Z I<|DE (SF l b t y) I I I call188 I Tt<|λz x=>U I (Qg I)<|A I<|s<|Av I I<|λ_ h=>⟨(),congrArg Eb (by rw[te,x];simp[qj]),T0,h⟩
def Xhz {l:LC} (h:x.lt[i]?=some l) {t:Int} (y:t∈l.m.q.map Prod.fst):x.hm.may t=false:=by
 have:x.hm.la.any (λl=>decide (t∈l.q.map Prod.fst))=true:=by
  rw[rR];exact⟨l.m,tR<|ry h,sT y⟩
 unfold Hm.may;rw[this];rfl
def XiR {t:Int} (h:∀z∈x.lt,¬t∈z.m.q.map Prod.fst):x.hm.may t=x.q.M.may t:=by
 have:x.hm.la.any (λl=>decide (t∈l.q.map Prod.fst))=false:=by
  rw[List.any_eq_false];intro l a;obtain⟨z,y,rfl⟩:=qj.1<|show l∈x.lt.map LC.m from a
  rw[sS<|h z y];decide
 unfold Hm.may;rw[this];rfl
def FI (h:x.Ok B) (t:Int):Df prog 82 [BM x.bh,aa t] Tr (x.H) (λ_:Unit=>.bool<|x.hm.may t) Tr (λ_=>x.H):=by
 intro w C o;refine Ey func82 I o<|E ?_;have r:(x.lt.map LC.b).length<=64:=by rw[qY,h.ll];exact h.q.ok.n64
 refine Cr I<|Z I<|AT I I I I<|λd=>Ak I<|E<|Y I<|Mv 2 I<|N Pz I Yh I<|Lo isAgg88 1 I<|U I (AM I Y7 I ue)<|uG ?_
 refine Bm (λ(k:Nat)=>[(0,BM x.bh),(3,pV d),(10,x.vL),(11,aa ((x.lt.map LC.b).length:Int)),(12,aa (k:Int))]) (λ(k:Nat)=>St w (dom x.H)<|Ac d 3 [aa t]::HQ.H x) (λ(k:Nat)=>k<=(x.lt.map LC.b).length/\∀z∈x.lt.take k,¬t∈z.m.q.map Prod.fst) (λ(k:Nat)=>(x.lt.map LC.b).length-k) (0) ⟨qc _,A3⟩ (Si I) Ih<|λk n=>E ?_
 obtain⟨s,i⟩:=n;refine Cr I<|U I (Ql I)<|Ns<|CB 13 I (λy=>?_)<|λy=>?_
 .obtain⟨l,c⟩:∃l,x.lt[k]?=some l:=⟨_,pE<|by rw[qY] at y;omega⟩
  have A:(x.lt.map LC.b)[k]?=some l.b:=by rw[qq,c];rfl
  have p:=(h.l l<|ry c).lens;have u:=h.b9;refine Am I<|Ah<|Ks<|Af<|Y I<|U I (Aw k I Y7 sizeOf203 I ue I I)<|U I (AO k 0 I isAgg203 I I ue A I)<|Ak I<|Y I<|Lm I<|Z I<|Ee [_] (XiQ h c) I call130 Tt<|λD _=>Pre.world (St _ _<|_::_::HQ.H x) Ih<|U I (BU (fn:=.func 0) (us:=#[pV d]) 131 I (vs:=#[]) Vu mg)<|AD<|Z I<|DE (XfC l.m.q d t J) I I I call129 I Tt<|λ_ _=>G<|CB 19 I (λf=>?_)<|λf=>?_
  .exact Am I<|Y I<|Ak I<|Al<|AA<|Ag<|Ag<|AA<|Ag<|Av I I<|λ_ g=>⟨(),congrArg Eb (Xhz c f).symm,T0,g.drop.drop⟩
  refine WG ?_;exact AJ (k+1) J ⟨J,lH i c f⟩ (Si I) Jx
 have e:=XiR (t:=t) (λl v=>i l<|by rw[qY] at y s;rw[pZ J];exact v);refine Ab I<|AP<|Aa<|Aa<|Ar<|Ks<|LZ (rg 7) 1944 (λj=>(Ac (HQ.bh<|x) 91<|HQ.cells<|x).at j/\(Ac d 3<|[aa t]).at j) I St.drawn Yv<|Md 2 I<|Ht Pz I SS I<|Dq I dU<|Dq I ZDU<|KC I<|Ee [_] (XkY h t) I call132 Tt<|λ_ _=>Pre.world (St _ _<|_::HQ.H x) Ih ?_
 exact KC I<|R I I uW<|AN<|Kt<|Al<|Av I I<|λ_ g=>⟨(),congrArg Eb e.symm,T0,g.drop⟩
def XhA (p:ci) (h:List LC) (l:LC) (T:ci):(p++(l.H++(Rq h++T))).Perm (p++(Rq (h++[l])++T)):=by
 have e:Rq (h++[l])=Rq h++l.H:=by unfold Rq;rw[List.flatMap_append];simp
 rw[e,qQ];exact (tS l.H (Rq h) T).append_left p
def st0 (n:Nat):OH:=⟨List.replicate n Bk.zero,List.replicate n false⟩
def st1 (n:Nat):OH:=((st0 n).alloc 0).put 0 OX
def kk (h:1<=n):(st0 n).fr=some 0:=by
 refine Db (y:=false) ?_ I<|λz x=>by simp at x
 show (List.replicate n false)[0]?=_
 rw[ru,pN J]
def kl (h:1<=n) (x:n<=256):(st0 n).Ok:=⟨by simp[st0],by simpa [st0] using h,by simpa [st0] using x⟩
def XiS (h:1<=n) (x:n<=256):((st0 n).alloc 0).Ok:=⟨by simp[st0,OH.alloc],by simpa [st0,OH.alloc] using h,by simpa [st0,OH.alloc] using x⟩
def Uj (h:1<=n) (x:n<=256):(st1 n).Ok:=⟨by simp[st1,st0,OH.alloc,OH.put],by simpa [st1,st0,OH.alloc,OH.put] using h,by simpa [st1,st0,OH.alloc,OH.put] using x⟩
def eZ (h:1<=n):((st0 n).alloc 0).us[0]?=some true:=by
 show ((List.replicate n false).set 0 true)[0]?=_
 rw[tE dO]
def e9 (h:1<=n):((st0 n).alloc 0).bl[0]?=some Bk.zero:=by
 show ((List.replicate n Bk.zero).set 0 Bk.zero)[0]?=_
 rw[tE dO]
def Qw (nb nf:Nat):Hm:=⟨WC nf,st1 nb,List.replicate nf Lt.newL,[]⟩
def fa {z f bs c:Nat} {y d g:d0} {x:List LC} {q:Q} (k:1<=nb) (i:nb<=256) (a:x.length=nf) (e:∀l∈x,l.m=Lt.newL) (j:q.Ok 0) (hm:q.M=WC nf):(⟨z,f,bs,c,y,d,g,[],st1 nb,x,q⟩:HQ).Ok 0/\(⟨z,f,bs,c,y,d,g,[],st1 nb,x,q⟩:HQ).hm=Qw nb nf:=by
 refine⟨⟨j,Uj k i,λl hm=>by rw[e l hm];exact Lt.fJ,?_,sh⟩,?_⟩
 .show x.length=q.M.fr.length
  rw[hm,a];exact (s9 ..).symm
 show (⟨q.M,st1 nb,x.map LC.m,[]⟩:Hm)=_
 rw[hm,<-a];have:x.map LC.m=List.replicate x.length Lt.newL:=List.eq_replicate_iff.2 ⟨A3,λb n=>by obtain⟨l,h,rfl⟩:=qj.1 n;exact e l h⟩;rw[this];rfl
def mL (n:Nat) (h:1<=n) (x:n<=64):Df prog 101 [aa (n:Int)] Tr [] (λr:Nat×Q=>.tuple #[BM r.1,aa 0]) (λr=>r.2.M=WC n/\r.2.Ok 0) (λr=>r.2.H r.1) :=
 Df.pack [] (zJ n h x) (sU _) oY (λr=>(r.1,(⟨r.2,WC n,[]⟩:Q)))<|λr y=>⟨rfl,⟨rfl,⟨y.1,XjN h x,y.2 _⟩⟩,[],SD _⟩
def od {nb nf:Nat} (j:1<=nb) (o:nb<=256) (M:5<=nf) (C:nf<=64):Df prog 50 [aa (nb:Int),aa (nf:Int)] Tr [] (λy:HQ=>.tuple #[BM y.bh,aa 0]) (λy=>y.Ok 0/\y.hm=Qw nb nf) (λy=>y.H):=by
 intro w N E;refine E0 func50 I E<|Y I<|Nh I<|Ak I<|Y I<|Lm I<|Z I<|J8 [] (HA:=[]) (XhG j o) I I I call100 I Tt ?_;rintro⟨bs,g,i⟩ _;refine Pw (St _ _<|SE bs g i<|st0 nb) ?_;refine Mv 4 I<|Ak I<|Y I<|Lm I<|Z I<|J8 [_,_,_] (HA:=[]) (mL nf A1 C) I I I call101 I Tt ?_;rintro⟨a,q⟩ ⟨hm,A⟩;dsimp only at hm A;refine Pre.world (St _ _<|_::_::_::Q.H a q) Ih ?_;refine Mv 4 I<|Ak I<|Ad<|Y I<|Mv 3 I<|Sb 25 false I (I)<|Mv 3 I<|Nk<|Sb 28 false I (I)<|Ab I<|Ah<|Kt<|Y I<|Mv 2 I<|Z I<|JG kI kI I I I<|λd=>U I (AS ([BM a,BM bs,C0,.map<|some d]) I I uX)<|Z I<|AT I I I I<|λf=>Ce [BM a,BM bs,C0,.map<|some d] I<|Ak I<|Ad<|Y I<|Mv 2 I<|Nk<|Af<|row0 203 LK none<|Pm [1] I ?_
 refine Fm (λ(k:Nat) (v:d0) (z:List LC)=>[(6,BM bs),(8,BM a),(10,BM f),(34,aa (nf:Int)),(35,aa (k:Int))]) (λ(k:Nat) (v:d0) (z:List LC)=>St w []<|Ac f 91 [BM a,BM bs,v,.map<|some d]::AG v 203 LK (z.map LC.b)::D1 d kI kI []::Ac bs 161 [g,i]::AG g 279 Bk.enc (st0 nb).bl::AG i 4 D5 (st0 nb).us::(Rq z++Q.H a q)) (λ(k:Nat) (v:d0) (z:List LC)=>k<=nf/\z.length=k/\∀l∈z,l.m=Lt.newL) (λ(k:Nat) (v:d0) (z:List LC)=>nf-k) (0) C0 ([]) ⟨qc _,rfl,A3⟩ (Si I) Ih<|λk v z D=>Ad ?_
 obtain⟨F,t,n⟩:=D;have K:(z.map LC.b).length=z.length:=qY ..;refine Cr I<|U I (Ql I)<|Ns<|CB 36 I (λu=>?_)<|λu=>?_
 .refine Am I (Ah<|Ks<|Af<|LZ (rg 11) 173745 (λG=>(Ac f 91 [BM a,BM bs,v,.map<|some d]).at G) I St.drawn uP<|Md 3 I<|Ht Pz I Yh I<|Dq I (Aj I isAgg88 I Ih I)<|MX I<|Wl Lt.zJ I I I call102 I Tt<|λp _=>Ai Uu<|MX I<|As (sz:=1) [.tmp 42] I I I I I Y7 sizeOf203 I zeroValue203 I<|λP=>Ai RY<|B7<|MX I<|Ap Y7 Y7 Xiu I (λ_ h=>AR kj LK [p] I I) A8<|λB=>Ba (show _=(z++[(⟨p,C0,C0,Lt.newL⟩:LC)]).map LC.b by rw[qR];rfl)<|AD<|m<|Ai RY<|KC I<|R I I zQ<|KC I<|R I I (AU I Pz I Yh I I)<|WA ?_);rintro⟨O,L,r⟩;refine Cd<|KC I<|AB I I Yh I I (by rw[r];rfl) (rO I)<|Ce [BM a,BM bs,B,.map<|some d] I<|AN<|Au<|Kt<|Cr I<|U I (Qi I)<|Lm I<|AE<|Pm [0,0,3,3,3,3] I ?_;exact AJ ((k+1,B,z++[⟨p,C0,C0,Lt.newL⟩])) A4 ⟨A4,by simp[t],λl J=>(rB.1 J).elim (n l)<|λe=>by simp at e;rw[e]⟩ (Si I)<|λ_ h=>h.perm<|XhA [_,_,_,_,_,_] z ⟨p,C0,C0,Lt.newL⟩ _
 have s:z.length=nf:=by omega
 refine Pw (St _ _<|HQ.H (⟨f,a,bs,d,v,g,i,[],st0 nb,z,q⟩:HQ)) ?_;refine Ab I<|AP<|Aa<|Aa<|Ar<|Kt<|Y I<|Lm I<|Z I<|Ee [] (XbC (x:=(⟨f,a,bs,d,v,g,i,[],st0 nb,z,q⟩:HQ)) (k:=0) (kl j o)<|kk j) I call103 Tt<|λ_ _=>Pw (St _ _<|HQ.H<|((⟨f,a,bs,d,v,g,i,[],st0 nb,z,q⟩:HQ).RI<|(st0 nb).alloc 0)) ?_
 refine Mv 4 I<|Ak I<|Y I<|Mv 2 I<|U I dK<|Z I<|Ee [] (Z2 (x:=((⟨f,a,bs,d,v,g,i,[],st0 nb,z,q⟩:HQ).RI<|(st0 nb).alloc 0)) (k:=0) (XiS j o) (eZ j)<|e9 j) I call90 Tt<|λ_ _=>Pw (St _ _<|HQ.H<|(((⟨f,a,bs,d,v,g,i,[],st0 nb,z,q⟩:HQ).RI<|(st0 nb).alloc 0).RI<|st1 nb)) ?_
 exact Nk<|Y I<|Mv 2 I<|Ak I<|Al<|Bw (rs:=[.tmp 4,.tmp 5]) I I<|λ_ h=>⟨⟨f,a,bs,d,v,g,i,[],st1 nb,z,q⟩,rfl,fa j o s n A hm,h⟩
structure Ie where
 t:Int
 k:c3
 at':Int
 blk:Nat
 par:Nat
 pin:Bool
 UZ:Bool
 m:Ms
 any:Bool
 v:Kv 16
 f:Bool
def XbD {c p q r:List α} (h:c=p++(q++r)) (y:p.length=i) (x:q.length=n):(c.drop i).take n=q:=by
 subst h;subst y;subst x;rw[List.drop_left' rfl];exact List.take_left' rfl
def Uk {c p q r:List α} {v:α} (h:c=p++(q++r)) (y:p.length=i) (x:q[j]?=some v):c[i+j]?=some v:=by
 subst h;subst y;rw[pO J,tT,pL (qp.1 x).1];exact x
def Ul {c p q r:List α} {v:α} (h:c=p++(q++r)) (x:p.length=i) (hj:j<q.length):c.set (i+j) v=p++(q.set j v++r):=by
 subst h;subst x;rw[rJ _ _ J,tT,sB _ _ hj]
def ae {c p q r s:bi} (h:c=p++(q++r)) (x:p.length=i) (y:s.length=q.length):Sep.splice c i s=p++(s++r):=by
 subst h;exact Hv x y
namespace Ie
def hd (w:Ie):bi:=aa w.t::w.k.c
def five (w:Ie):bi:=[aa w.at',aa (w.blk:Int),aa (w.par:Int),.bool w.pin,.bool w.UZ]
def c (w:Ie):bi:=w.hd++(w.five++(w.m.c++([Value.bool w.any]++(w.v.c++[Value.bool w.f]))))
def YU (w:Ie):w.hd.length=10:=by simp[hd,Kv.oQ]
def oQ (w:Ie):w.c.length=63:=by simp[c,hd,five,Kv.oQ,Ms.oQ]
def e5 (w:Ie):w.c=w.hd++(w.five++(w.m.c++([Value.bool w.any]++(w.v.c++[Value.bool w.f])))):=rfl
def em (w:Ie):w.c=(w.hd++w.five)++(w.m.c++([Value.bool w.any]++(w.v.c++[Value.bool w.f]))):=by rw[qQ];rfl
def ea (w:Ie):w.c=(w.hd++w.five++w.m.c)++([Value.bool w.any]++(w.v.c++[Value.bool w.f])):=by rw[qQ,qQ];rfl
def ev (w:Ie):w.c=(w.hd++w.five++w.m.c++[Value.bool w.any])++(w.v.c++[Value.bool w.f]):=by rw[qQ,qQ,qQ];rfl
def ef (w:Ie):w.c=(w.hd++w.five++w.m.c++[Value.bool w.any]++w.v.c)++([Value.bool w.f]++[]):=by rw[qQ,qQ,qQ,qQ,sG];rfl
def lm (w:Ie):(w.hd++w.five).length=15:=by rw[pK,YU];rfl
def la (w:Ie):(w.hd++w.five++w.m.c).length=44:=by rw[pK,lm,Ms.oQ]
def lv (w:Ie):(w.hd++w.five++w.m.c++[Value.bool w.any]).length=45:=by rw[pK,la];rfl
def lf (w:Ie):(w.hd++w.five++w.m.c++[Value.bool w.any]++w.v.c).length=62:=by rw[pK,lv,Kv.oQ]
def fA (w:Ie):(w.c.drop 1).take 9=w.k.c:=by
 show ((aa w.t::(w.k.c++_)).drop 1).take 9=_
 exact List.take_left' Nw
def kW (w:Ie):(w.c.drop 15).take 29=w.m.c:=XbD w.em w.lm OM
def Xdy (w:Ie):(w.c.drop 45).take 17=w.v.c:=XbD w.ev w.lv Nw
def XcN (w:Ie):w.c[62]?=some (.bool w.f):=Uk (j:=0) w.ef w.lf rfl
def XcG (w:Ie):w.c[44]?=some (.bool w.any):=Uk (j:=0) w.ea w.la rfl
def mid (w:Ie) {j:Nat} {v:d0} (h:w.five[j]?=some v):w.c[10+j]?=some v:=Uk w.e5 w.YU h
def set_mid {w x:Ie} (y:(x.t,x.k,x.m,x.any,x.v,x.f)=(w.t,w.k,w.m,w.any,w.v,w.f)) (hj:j<5) (h:w.five.set j v=x.five):w.c.set (10+j) v=x.c:=by
 rw[Ul w.e5 w.YU<|show j<w.five.length from hj,h];simp only[Prod.mk.injEq] at y;obtain⟨b,e,a,d,g,z⟩:=y;unfold c hd;rw[b,e,a,d,g,z]
def Xdo (w:Ie) (z:Ms):Sep.splice w.c 15 z.c=({w with m:=z}:Ie).c:=(ae w.em w.lm<|by rw[Ms.oQ,Ms.oQ]).trans (em {w with m:=z}).symm
def Xdm (w:Ie) (b:Bool):w.c.set 44 (.bool b)=({w with any:=b}:Ie).c:=(Ul (j:=0) w.ea w.la Nat.zero_lt_one).trans (ea {w with any:=b}).symm
def Xdp (w:Ie) (z:Kv 16):Sep.splice w.c 45 z.c=({w with v:=z}:Ie).c:=(ae w.ev w.lv jF).trans (ev {w with v:=z}).symm
def lD (w:Ie) (b:Bool):w.c.set 62 (.bool b)=({w with f:=b}:Ie).c:=(Ul (j:=0) w.ef w.lf Nat.zero_lt_one).trans (ef {w with f:=b}).symm
end Ie
abbrev Ot (b:Nat) (w:Ie):Nr:=Ac b 226 w.c
def I5 (h:Hm) (t b:Int):(h.pin t b).1=0\/(h.pin t b).1=1\/(h.pin t b).1=2\/(h.pin t b).1=3\/(h.pin t b).1=4:=by
 show (h.M.pin t b).1=0\/_
 unfold Hm.pin Mo.pin;dsimp only;split
 .exact .inl I
 split
 .split
  .exact .inr WM
  exact Ze
 split
 .exact .inr<|.inr<|.inr<|.inr I
 exact .inr Ze
section
variable {P:d8} {n:Nat} {L:Env} {X:aU} {o:Oper}
def LN {x:d5} {sz:Nat} (vs:bi) (i:o.op=.load t x) (k:∀w,(isAgg t).run P w=.ok true w) (c:∀w,(sizeOf t).run P w=.ok sz w) (f:ev L x=some (.pointer<|some ⟨b,off,none⟩)) (z:∀w,X w->∃cs,(Ac b T cs).at w/\(cs.drop off).take sz=vs)
 (j:vs.length=sz):MV P n L X o (.agg vs.toArray):=λa w d g=>by
 obtain⟨cs,h,e⟩:=z w g
 exact AH (X:=λy=>y=w) vs i k c f (λy e=>by subst e;exact h) e j a w d rfl
end
section
variable {P:d8} {n:Nat} {L:Env} {X:aU} {o:Oper}
def ag {x:d5} (g:o.op=.load t x) (i:∀w,(isAgg t).run P w=.ok false w) (d:ev L x=some (.pointer<|some ⟨b,off,none⟩)) (z:∀w,X w->∃cs,(Ac b T cs).at w/\cs[off]?=some v):MV P n L X o v:=λa w c f=>by
 obtain⟨cs,h,e⟩:=z w f
 exact Aj (X:=λy=>y=w) g i d (λy e=>by subst e;exact h) e a w c rfl
end
def Ie.SX (w:Ie) (l:cp):Ie:=if RP Ms.key l w.k=true then {w with m:=if w.any=true then QE (l.getD (DH Ms.key l w.k) ms0) w.m else l.getD (DH Ms.key l w.k) ms0,any:=true} else w
def Ie.down (w:Ie) (l:cp) (kid:Nat):Ie:={w.SX l with par:=(w.SX l).blk,blk:=kid,UZ:=true,pin:=false,at':=1}
def Ie.VL (w:Ie) (l:ct):Kv 16×Bool:=if w.any=true then F8 (Da l w.k).1 (Da l w.k).2 w.m else Da l w.k
def Ie.fin (w:Ie) (l:ct):Ie:={w with v:=(w.VL l).1,f:=(w.VL l).2,at':=6,pin:=false}
def Ie.pinned (r:Ie) (e:Int):Ie:=if e=1\/e=2 then {r with at':=3,pin:=true} else if e=3 then {r with at':=2,pin:=true} else r
def XkZ (h:x.Ok B) (b:Nat) (r:Ie) (p:OJ r.t) (g:x.hm.may r.t) (d:r.at'=1) (o:B+1<=60000) (n:x.s.us[r.blk]?=some true) (l:r.blk<=256):Df prog 77 [BM b,BM x.bh] Tr (Ot b r::x.H) (λy:HQ=>.bool false) (λy=>y.bh=x.bh/\y.Ok (B+1)/\y.hm=(x.hm.pin r.t r.blk).2) (λy=>Ot b (r.pinned (x.hm.pin r.t r.blk).1)::y.H):=by
 intro w q m;refine Ey func77 I m<|Y I<|A I<|IQ 0 I<|E<|Y I<|C 2 I<|N BS I Z3 I<|U I N2<|C 2 I<|Sb 10 false I Y9<|C 3 I<|N BS I Z3 I<|Lo G3 0 I<|Z I<|Ee [_] (FI h r.t) I call82 Tt<|λ_ _=>Pre.world (St _ _<|_::HQ.H x) Ih ?_
 refine LH 16 (.bool true) I WL<|C 2 I<|G<|Ab I<|Ah<|Ks<|Y I<|C 2 I<|N BS I Z3 I<|U I N2<|G<|Af<|Y I<|U I (Qe I)<|A I<|Sb 23 true I Y9<|Am I<|E<|E<|IS [(0,O),(1,O),(2,O),(3,O),(4,O),(5,O),(6,O),(7,O),(8,O),(9,W)] [9] [(_,O),(_,O),(_,O),(_,O),(_,O),(_,O),(_,O),(_,O),(_,O),(_,W)] _ (Bg jE) I A6 A6 I I I A6 St.drawn Ih<|Md 2 I ?_;refine Dc I<|Ht BS I Z3 I<|Dq I X9<|Md 2 I<|Ht BS I Z3 I<|Dq I nJ ?_;have k:=I5 x.hm r.t r.blk;refine KC I<|Ee [_] (eS h o r.t n l) I call121 Tt ?_;rintro y ⟨a,f,i⟩;refine VK ?_;refine AN<|Kt<|Af<|E<|Y I<|dW ?_;rcases k with z|z|z|z|z
 .refine LH 34 (aa 0) I U8 (XdU ?_);exact yz
 .refine LH 34 (aa 1) I U8 (Sb 35 true I km<|Am I<|Ah<|Kt<|Am I<|Cr I<|C 3 I<|N BS I Z3 I<|Z I<|AB I I Z3 I I I uI<|M (({r with at':=3}:Ie)).c Xq<|Lc I<|N BS I Z4 I<|Z I<|AB I I Z4 I I I uI<|M (({({r with at':=3}:Ie) with pin:=true}:Ie)).c dh<|AE<|Au<|Kt<|Hs<|C6 ?_);exact XdT
 .refine LH 34 (aa 2) I U8 (Sb 35 false I km<|Ab I<|Cr I<|U I (Qe I)<|A I<|Sb 35 true I km<|Am I<|Cr I<|C 3 I<|N BS I Z3 I<|Z I<|AB I I Z3 I I I uI<|M (({r with at':=3}:Ie)).c Xq<|Lc I<|N BS I Z4 I<|Z I<|AB I I Z4 I I I uI<|M (({({r with at':=3}:Ie) with pin:=true}:Ie)).c dh<|AE<|Au<|Kt ?_);exact Hs<|C6 XdT
 .refine LH 34 (aa 3) I U8 (Sb 35 false I km<|Ab I<|Cr I<|U I (Qe I)<|A I<|Sb 35 false I km<|Ab I<|Y I<|U I (Qe I)<|A I<|Sb 44 true I km<|Am I<|Cr I<|C 3 I<|N BS I Z3 I<|Z I<|AB I I Z3 I I I uI<|M (({r with at':=2}:Ie)).c Xq<|Lc I<|N BS I Z4 I<|Z I ?_);refine AB I I Z4 I I I uI<|M (({({r with at':=2}:Ie) with pin:=true}:Ie)).c dh<|AE<|Au<|Kt<|Hs<|C6<|Dh<|Di<|E<|Ah<|Kt<|Y I<|C 2 I<|N BS I Z3 I<|U I N2<|U I (Qe I)<|A I<|s<|C7<|Pm [4,4,4] I ?_;exact Pm [3,3,3,3] I ZDP
 refine LH 34 (aa 4) I U8 (XdU ?_);exact yz
def ko (h:x.Ok B) (b:Nat) (r:Ie) (q:OJ r.t) (a:x.hm.may r.t) (z:r.at'=2) (g:x.s.us[r.blk]?=some true) (i:Cw (r.blk:Int) x.rd=some r.t) {bk:Bk} (n:x.s.bl[r.blk]?=some bk) {nd:Nd} (hd:IE bk.l nd) (d:nd.Sm 1000):Df prog 77 [BM b,BM x.bh] Tr (Ot b r::x.H) (λy:HQ=>.bool false) (λy=>y.bh=x.bh/\y.Ok B/\y.hm=x.hm.load r.blk nd) (λy=>Ot b ({r with at':=3}:Ie)::y.H):=by
 intro w u f;refine Ey func77 I f<|Y I<|A I<|IQ 0 I<|E<|Y I<|C 2 I<|N BS I Z3 I<|U I N2<|C 2 I<|Sb 10 false I uU<|C 3 I<|N BS I Z3 I<|Lo G3 0 I<|Z I<|Ee [_] (FI h r.t) I call82 Tt<|λ_ _=>Pre.world (St _ _<|_::HQ.H x) Ih ?_
 refine LH 16 (.bool true) I Vl<|C 2 I<|G<|Ab I<|Ah<|Ks<|Y I<|C 2 I<|N BS I Z3 I<|U I N2<|G<|Af<|Y I<|U I (Qe I)<|A I<|Sb 23 false I uU<|Ab I<|Y I<|U I (Qe I)<|A I<|Sb 52 true I uU<|Am I ?_;refine E<|IS [(0,O),(1,O),(2,O),(3,O),(4,O),(5,O),(6,O),(7,O),(8,O),(9,W)] [9] [(_,O),(_,O),(_,O),(_,O),(_,O),(_,O),(_,O),(_,O),(_,O),(_,W)] _ jE I A6 A6 I I I A6 St.drawn Ih<|Md 3 I<|Ht BS I Z3 I<|Dq I X9<|Md 2 I<|Ht BS I Z3 I<|Dq I nJ<|KC I<|Ee [_] (VF h g i n hd d) I call85 Tt ?_;rintro⟨y,v,p⟩ ⟨e,k,o⟩;refine VK ?_;refine AN<|Kt<|Y I<|C 2 I<|N BS I Z3 I<|Z I<|AB I I Z3 I I I uI<|M (({r with at':=3}:Ie)).c Xq<|G<|Hs<|C6<|Dh<|Di<|E<|Ah<|Kt<|Y I<|C 2 I<|N BS I Z3 I<|U I N2<|dW ?_;exact s<|C7<|Av I I<|λ_ m=>⟨y,rfl,⟨e,k,o⟩,m⟩
def Xkw (h:x.Ok B) (b:Nat) (r:Ie) (m:OJ r.t) (e:x.hm.may r.t) (z:r.at'=3) (n:B+1<=60000) {i:Nat} (o:x.q.M.Me (r.blk:Int) 2=some i):Df prog 77 [BM b,BM x.bh] Tr (Ot b r::x.H) (λy:HQ=>.bool false) (λy=>y.bh=x.bh/\y.Ok (B+1)/\y.hm=x.hm.take i r.t false) (λy=>Ot b (if r.UZ=true then {r with at':=4} else {r with at':=5})::y.H):=by
 intro w s l;refine Ey func77 I l<|Y I<|A I<|IQ 0 I<|E<|Y I<|C 2 I<|N BS I Z3 I<|U I N2<|C 2 I<|Sb 10 false I uU<|C 3 I<|N BS I Z3 I<|Lo G3 0 I<|Z I<|Ee [_] (FI h r.t) I call82 Tt<|λ_ _=>Pre.world (St _ _<|_::HQ.H x) Ih ?_
 refine LH 16 (.bool true) I (by rw[e])<|wO ?_;refine Y I<|U I (Qe I)<|A I<|Sb 67 true I uU<|Am I<|E<|IS [(0,O),(1,O),(2,O),(3,O),(4,O),(5,O),(6,O),(7,O),(8,O),(9,W)] [9] [(_,O),(_,O),(_,O),(_,O),(_,O),(_,O),(_,O),(_,O),(_,O),(_,W)] _ jE I A6 A6 I I I A6 St.drawn Ih<|Md 3 I<|Ht BS I Z3 I<|Dq I X9<|Md 2 I<|Ht BS I Z3 I<|Dq I nJ<|KC I<|Ee [_] (lK h m o n false) I call86 Tt ?_;rintro⟨y,p⟩ ⟨d,g,k⟩;refine VK ?_;refine AN<|Ks<|Y I<|C 2 I<|N BS I Z3 I<|Z I<|AB I I Z3 I I I uI<|M (({r with at':=5}:Ie)).c Xq<|G<|Y I<|C 2 I<|N BS I Z4 I<|U I (Aj I G4 I uP<|Ie.mid _ (j:=4) I)<|G<|Pre.PY 85 I (λa=>?_)<|λa=>?_
 .refine Am I (Cr I<|C 2 I<|N BS I Z3 I<|Z I<|AB I I Z3 I I I uI<|M (({({r with at':=5}:Ie) with at':=4}:Ie)).c Xq<|G<|Hs<|C6<|Dh<|Di<|E<|Ah<|Kt<|Y I<|C 2 I<|N BS I Z3 I<|U I N2<|U I (Qe I)<|A I<|Al ?_);exact C7<|Av I I<|λ_ f=>⟨y,rfl,⟨d,g,k⟩,by dsimp only;rw[pN a];exact f⟩
 refine Ab I (Ah<|Kt<|Hs<|C6<|Dh<|Di<|E<|Ah<|Kt<|Y I<|C 2 I<|N BS I Z3 I<|U I N2<|U I (Qe I)<|A I<|Al<|C7<|Pm [2,2,2,2,2] I ?_);exact Pm [5,5] I<|Av I I<|λ_ f=>⟨y,rfl,⟨d,g,k⟩,by dsimp only;rw[pQ<|by rw[a];decide];exact f⟩
def fc (h:x.Ok B) (b:Nat) (r:Ie) (g:OJ r.t) (a:x.hm.may r.t) (z:r.at'=4) {i:Nat} (l:x.q.M.Me (r.par:Int) 2=some i) (e:FH (x.hm.OG i) r.t):Df prog 77 [BM b,BM x.bh] Tr (Ot b r::x.H) (λy:HQ=>.bool false) (λy=>y.bh=x.bh/\y.Ok B/\y.hm=x.hm.leave i r.t r.par) (λy=>Ot b {r with at':=5,UZ:=false}::y.H):=by
 intro w n f;refine Ey func77 I f<|Y I<|A I<|IQ 0 I<|E<|Y I<|C 2 I<|N BS I Z3 I<|U I N2<|C 2 I<|Sb 10 false I uU<|C 3 I<|N BS I Z3 I<|Lo G3 0 I<|Z I<|Ee [_] (FI h r.t) I call82 Tt<|λ_ _=>Pre.world (St _ _<|_::HQ.H x) Ih ?_
 refine LH 16 (.bool true) I Vl<|wO ?_;refine Y I<|U I (Qe I)<|A I<|Sb 67 false I uU<|Ab I<|Y I<|U I (Qe I)<|A I<|Sb 89 true I uU<|Am I<|E<|IS [(0,O),(1,O),(2,O),(3,O),(4,O),(5,O),(6,O),(7,O),(8,O),(9,W)] [9] [(_,O),(_,O),(_,O),(_,O),(_,O),(_,O),(_,O),(_,O),(_,O),(_,W)] _ jE I A6 A6 I I I A6 St.drawn Ih<|Md 3 I<|Ht BS I Z3 I<|Dq I X9<|Md 2 I<|Ht BS I Z3 I<|Dq I (Aj I G3 I uP<|Ie.mid _ (j:=2) I)<|KC I<|Ee [_] (JN h g l e) I call122 Tt ?_;rintro⟨y,v⟩ ⟨d,k,m⟩;refine VK ?_;refine AN<|Kt<|Y I<|C 3 I<|N BS I Z3 I<|Z I<|AB I I Z3 I I I uI<|M (({r with at':=5}:Ie)).c Xq<|Lc I<|N BS I Z4 I<|Z I<|AB I I Z4 I I I uI<|M (({({r with at':=5}:Ie) with UZ:=false}:Ie)).c (Ie.set_mid (j:=4) I A2 I)<|G<|Hs<|C6<|Dh<|Di<|E<|Ah<|Kt<|Y I ?_;exact C 2 I<|N BS I Z3 I<|U I N2<|U I (Qe I)<|A I<|s<|C7<|Av I I<|λ_ e=>⟨y,rfl,⟨d,k,m⟩,e⟩
def Xh8 (l:cp) (k:c3):(Ea l k).2=RP Ms.key l k:=by
 unfold Ea;cases h:RP Ms.key l k<;>simp
def ai {k:c3} (h:RP Ms.key l k):(Ea l k).1=l.getD (DH Ms.key l k) ms0:=by
 unfold Ea;rw[pN h]
def kv {r:Ie} (h:RP Ms.key l r.k=false):r.SX l=r:=by unfold Ie.SX;rw[pQ wz]
def fe {r:Ie} (h:RP Ms.key l r.k) (x:r.any=false):r.SX l={r with m:=(Ea l r.k).1,any:=true}:=by
 unfold Ie.SX;rw[pN h,pQ Yn,ai h]
def ff {r:Ie} (h:RP Ms.key l r.k) (x:r.any):r.SX l={r with m:=QE (Ea l r.k).1 r.m,any:=true}:=by
 unfold Ie.SX;rw[pN h,pN x,ai h]
def Xh9 (h:x.Ok B) (b:Nat) (r:Ie) {i:Nat} (t:x.q.M.Me (r.blk:Int) 2=some i) (o:Bt Ms.key (x.q.M.at' i).nd.msgs) {d:Nat} (g:(x.q.M.at' i).nd.kids[EL (x.q.M.at' i).nd.piv r.k]?=some (d:Int)):Df prog 123 [BM b,BM x.bh] Tr (Ot b r::x.H) (λ_:Unit=>.tuple #[]) Tr (λ_=>Ot b (r.down (x.q.M.at' i).nd.msgs d)::x.H):=by
 intro w K D;have A:=h.Xz t;obtain⟨J,G⟩:=A;have l:((x.q.M.at' i).nd).Sm 1000:=h.q.ok.es _ (by unfold Mo.at';rw[sY];obtain⟨z,C,_⟩:=Dd (Eg t).1;rw[C];exact ry C);have E:=(qp.1 g).1;refine Ey func123 I D<|Ad ?_;refine Ew (λ(s:N4) (y:Nat)=>[(0,BM b),(1,BM x.bh),(4,pV y),(5,.bool true)]) (λ(s:N4) (y:Nat)=>St w (dom<|Ot b r::x.H)<|Ac y 135 (⟨s,(x.q.M.at' i).nd⟩:NV).c::(Bo (⟨s,(x.q.M.at' i).nd⟩:NV)++(Ot b r::x.H))) (λ(s:N4) (y:Nat)=>True) ?_ ?_
 .refine DP (λa=>(Ot b r).at a/\(Ac x.bh 91 x.cells).at a) I St.drawn (Aq 0 I yE uf<|Aq 1 I yE zQ<|Aq 2 I yE jP<|Aq 3 I yE nV<|Aq 4 I yE uf<|Aq 5 I yE zQ<|Aq 6 I yE (AU I BS I Z3 I I)<|Aq 7 I yE (Aj I G3 I uO eF)<|QZ 8 12 I ?_ ?_)
  .refine Ee [_] (LM h t) I call116 Tt (λs _=>Pre.world (St _ _<|_::_::_::_::_::HQ.H x) Ih<|Ai WI<|Aq 9 I WI uf<|Aq 10 I WI (Qx I)<|Aq 11 I WI (Qx I)<|Ay 12 I<|Ax I I I zeroValue135<|λy=>M NZ.c I<|Ai Xn<|sk ?_);exact bT
  refine Ax I I I zeroValue135 (λy=>M NZ.c I<|Ai (H2 1 2 I)<|Ay 8 I<|Ee [_,_] (LM h t) I call116 Tt<|λs _=>Pre.world (St _ _<|_::_::_::_::_::_::HQ.H x) Ih<|yG ?_);exact bT
 intro s y _;refine Ad<|Ad<|LZ (rg 8) 5832 (λa=>(Ot b r).at a/\(Ac x.bh 91 x.cells).at a/\(Ac y 135<|(⟨s,(x.q.M.at' i).nd⟩:NV).c).at a) I St.drawn (Hc 5 6 0 I)<|Ht Bj I Eo I<|Dq I (Aj I H6 I (λ_ h=>h.2.2) I)<|Md 2 I<|Ht BS I MW I<|Dq I (AH ((Ie.k r).c) I OO MW I uO (Ie.fA _) Nw)<|KC I<|E1 (KV (x.q.M.at' i).nd.piv r.k<|qM l.p A2) I call178 yp<|λ_ _=>KC I<|R I I uW<|AN<|Kt<|Y I<|Mv 3 I<|N Bj I OQ I<|Lo Pq 0 I<|U I Zy<|Mv 2 I<|Nk<|Yf 35 I (by show ((EL (x.q.M.at' i).nd.piv r.k:Nat):Int)<(((x.q.M.at' i).nd.kids.length:Nat):Int);omega)<|Am I<|Ad<|Ad ?_
 refine ES (λ(e:Nat)=>[(0,BM b),(1,BM x.bh),(4,pV y),(5,.bool true),(6,aa ((EL (x.q.M.at' i).nd.piv r.k):Int)),(7,pV e),(8,.bool<|RP Ms.key (x.q.M.at' i).nd.msgs r.k)]) (λ(e:Nat)=>St w (dom<|Ot b r::x.H)<|Ac e 154 ((Ea (x.q.M.at' i).nd.msgs r.k).1).c::Ac y 135 (⟨s,(x.q.M.at' i).nd⟩:NV).c::(Bo (⟨s,(x.q.M.at' i).nd⟩:NV)++(Ot b r::x.H))) (λ(e:Nat)=>True) ?_ ?_
 .refine DP (λa=>(Ot b r).at a/\(Ac x.bh 91 x.cells).at a/\(Ac y 135<|(⟨s,(x.q.M.at' i).nd⟩:NV).c).at a) I St.drawn (Aq 0 I (Hc 5 6 0 I) (AU I Bj I DS I I)<|Aq 1 I (Hc 5 6 0 I) (Aj I Fy I (λ_ h=>h.2.2) I)<|Aq 2 I (Hc 5 6 0 I) uf<|Aq 3 I (Hc 5 6 0 I) zQ<|Aq 4 I (Hc 5 6 0 I) (AU I BS I MW I I)<|Aq 5 I (Hc 5 6 0 I) (AH ((Ie.k r).c) I OO MW I uO (Ie.fA _) Nw)<|QZ 6 10 I ?_ ?_)
  .refine E1 ZHk I call179 aF (λ_ _=>Ai (Hc 5 6 0 I)<|Aq 7 I (Hc 5 6 0 I) uf<|Aq 8 I (Hc 5 6 0 I) (Qx I)<|Aq 9 I (Hc 5 6 0 I) (Qx I)<|Ay 10 I<|Ax I I I zeroValue154<|λe=>M ms0.c I<|Ai YC<|Xd9 ?_);exact Xd6
  refine Ax I I I zeroValue154 (λe=>M ms0.c I<|Ai YC<|Ay 6 I<|E1 ZHk I call179 Yp<|λ_ _=>Ai YC<|Aq 7 I YC uf<|Aq 8 I YC (Qx I)<|Aq 9 I YC (Qx I)<|Xd9 ?_);exact Xd6
 intro e _;refine Y I<|Lm I<|Nk ?_;refine ES (λ(u:Unit)=>[(0,BM b),(1,BM x.bh),(4,pV y),(5,.bool true),(6,aa ((EL (x.q.M.at' i).nd.piv r.k):Int))]) (λ(u:Unit)=>St w (dom<|Ot b r::x.H)<|Ac y 135 (⟨s,(x.q.M.at' i).nd⟩:NV).c::(Bo (⟨s,(x.q.M.at' i).nd⟩:NV)++(Ot b (Ie.SX r (x.q.M.at' i).nd.msgs)::x.H))) (λ(u:Unit)=>True) ?_ ?_
 .refine Pre.PY 46 I (λf=>?_) (λf=>?_)
  .refine Am I (Ad<|Y I<|Mv 2 I<|N BS I Z4 I<|U I (Aj I G4 I TQ<|Ie.XcG _)<|Nk<|Pre.PY 50 I (λn=>?_)<|λn=>?_)
   .refine Am I (LZ (rg 7) 1944 (λa=>(Ac e 154 ((Ea (x.q.M.at' i).nd.msgs r.k).1).c).at a/\(Ot b r).at a) I St.drawn (H2 0 6 I)<|Dq I (AH ((Ea (x.q.M.at' i).nd.msgs r.k).1.c) I Ck Bi I uO (BF _) OM)<|Md 2 I<|Ht BS I Bi I<|Dq I (AH ((Ie.m r).c) I Ck Bi I uS (Ie.kW _) OM)<|KC I<|E1 (Jq (Ea (x.q.M.at' i).nd.msgs r.k).1 r.m) I call180 Tt<|λ_ _=>KC I<|AF I I Bi I I OM RZ uJ<|M ((QE (Ea (x.q.M.at' i).nd.msgs r.k).1 r.m)).c vK<|AN<|Kt<|Cr I<|Mv 2 I<|U I (Cq ((QE (Ea (x.q.M.at' i).nd.msgs r.k).1 r.m).c) Ck Bi 0 I (BF _) OM)<|Lc I<|N BS I Bi I<|C3<|Z I<|AF I I Bi I I OM RZ (by rw[Ms.oQ,Ie.oQ];decide)<|M (({r with m:=(QE (Ea (x.q.M.at' i).nd.msgs r.k).1 r.m)}:Ie)).c (Ie.Xdo _ _)<|Lc I<|N BS I Z4 I<|Z I<|AB I I Z4 I I I uI<|M (({({r with m:=(QE (Ea (x.q.M.at' i).nd.msgs r.k).1 r.m)}:Ie) with any:=true}:Ie)).c (Ie.Xdm _ _)<|AE<|AD<|Ae<|TO ?_);refine p 12 [2,3,4,5,6,1,7,8,9,10,11,0] I ?_;exact Bf (()) trivial (Si I) (λ_ h=>by rw[ff f n];exact h)
   refine Ab I (Ah<|Kt<|Cr I<|Mv 2 I<|U I (Cq ((Ea (x.q.M.at' i).nd.msgs r.k).1.c) Ck Bi 0 I (BF _) OM)<|Lc I<|N BS I Bi I<|C3<|Z I<|AF I I Bi I I OM RZ (by rw[Ms.oQ,Ie.oQ];decide)<|M (({r with m:=(Ea (x.q.M.at' i).nd.msgs r.k).1}:Ie)).c (Ie.Xdo _ _)<|Lc I<|N BS I Z4 I<|Z I<|AB I I Z4 I I I uI<|M (({({r with m:=(Ea (x.q.M.at' i).nd.msgs r.k).1}:Ie) with any:=true}:Ie)).c (Ie.Xdm _ _)<|AE<|AD<|Ae<|Pm [9,9,9] I<|Pm [4,4,4,4,4,3,3,3,3] I ?_);exact Bf (()) trivial (Si I) (λ_ h=>by rw[fe f n];exact h)
  refine Ab I (Ah<|Ae ?_);exact Bf (()) trivial (Si I) (λ_ h=>by rw[kv f];exact h)
 intro u _;refine Ad<|LZ [0,1,2,3,4,5,6,7,9,10,11,12,13,8,14,15,16,17,18,19,20,21,22,23,24,25,26,27,28] 66968388108117 (λa=>(Ac y 135 (⟨s,(x.q.M.at' i).nd⟩:NV).c).at a/\Ec a s.k.v ds (x.q.M.at' i).nd.kids) I St.drawn (Hb 0 2 I)<|Md 7 I<|Ht BS I Z3 I<|Ht Bj I OQ I<|Dq I mF<|Dm I<|Dq I (Aw (EL (x.q.M.at' i).nd.piv r.k) I KI Z3 I uS I I)<|Dq I (AO (EL (x.q.M.at' i).nd.piv r.k) 0 I G3 I I uS g I)<|MX I<|R I I (Aj I G3 I Ve eF)<|Ai (Hb 0 2 I)<|Dc I<|Ht BS I Z3 I<|B7<|MX I<|AB I I Z3 I I I uI<|M (({(Ie.SX r (x.q.M.at' i).nd.msgs) with par:=(Ie.SX r (x.q.M.at' i).nd.msgs).blk}:Ie)).c (Ie.set_mid (j:=2) I A2 I) ?_;refine Ai (Hb 1 3 I)<|Dc I<|Ht BS I Z3 I<|MX I<|AB I I Z3 I I I uI<|M (({({(Ie.SX r (x.q.M.at' i).nd.msgs) with par:=(Ie.SX r (x.q.M.at' i).nd.msgs).blk}:Ie) with blk:=d}:Ie)).c (Ie.set_mid (j:=1) I A2 I)<|Ai (Hb 1 3 I)<|Dc I<|Ht BS I Z4 I<|MX I<|AB I I Z4 I I I uI<|M (({({({(Ie.SX r (x.q.M.at' i).nd.msgs) with par:=(Ie.SX r (x.q.M.at' i).nd.msgs).blk}:Ie) with blk:=d}:Ie) with UZ:=true}:Ie)).c (Ie.set_mid (j:=4) I A2 I)<|Ai (Hb 1 3 I)<|Dc I<|Ht BS I Z4 I<|MX I<|AB I I Z4 I I I uI<|M (({({({({(Ie.SX r (x.q.M.at' i).nd.msgs) with par:=(Ie.SX r (x.q.M.at' i).nd.msgs).blk}:Ie) with blk:=d}:Ie) with UZ:=true}:Ie) with pin:=false}:Ie)).c dh<|Ai (Hb 1 3 I)<|KC I<|R I I zQ<|KC I<|R I I (AU I BS I Z3 I I)<|KC I ?_;exact AB I I Z3 I I I uI<|M (({({({({({(Ie.SX r (x.q.M.at' i).nd.msgs) with par:=(Ie.SX r (x.q.M.at' i).nd.msgs).blk}:Ie) with blk:=d}:Ie) with UZ:=true}:Ie) with pin:=false}:Ie) with at':=1}:Ie)).c Xq<|AN<|Kt<|Al<|Ag<|Pm [1,1,1,1,1] I<|Ae<|Ae<|Ae<|Ae<|Ae<|Bl I<|λ_ F=>⟨(),rfl,T0,F⟩
def fg {r:Ie} {l:ct} (h:r.any=false):({r with v:=(r.VL l).1,f:=(r.VL l).2}:Ie)={({r with v:=(Da l r.k).1}:Ie) with f:=(Da l r.k).2}:=by
 unfold Ie.VL;rw[h];rfl
def Xia {r:Ie} {l:ct} (h:r.any):r.VL l=F8 (Da l r.k).1 (Da l r.k).2 r.m:=by
 unfold Ie.VL;rw[pN h]
def an (h:x.Ok B) (b:Nat) (r:Ie) (J:OJ r.t) {i:Nat} (n:x.q.M.Me (r.blk:Int) 2=some i) (u:(x.q.M.at' i).nd.kids=[]) (o:Dl (x.q.M.at' i).nd.es) (C:FH (x.hm.OG i) r.t):Df prog 123 [BM b,BM x.bh] Tr (Ot b r::x.H) (λ_:HQ=>.tuple #[]) (λy=>y.bh=x.bh/\y.Ok B/\y.hm=x.hm.leave i r.t r.blk) (λy=>Ot b (r.fin (x.q.M.at' i).nd.es)::y.H):=by
 intro w Q G;have E:=h.Xz n;obtain⟨P,L⟩:=E;have l:((x.q.M.at' i).nd).Sm 1000:=h.q.ok.es _ (by unfold Mo.at';rw[sY];obtain⟨z,F,_⟩:=Dd (Eg n).1;rw[F];exact ry F);refine Ey func123 I G<|Ad ?_;refine Ew (λ(s:N4) (a:Nat)=>[(0,BM b),(1,BM x.bh),(4,pV a),(5,.bool true)]) (λ(s:N4) (a:Nat)=>St w (dom<|Ot b r::x.H)<|Ac a 135 (⟨s,(x.q.M.at' i).nd⟩:NV).c::(Bo (⟨s,(x.q.M.at' i).nd⟩:NV)++(Ot b r::x.H))) (λ(s:N4) (a:Nat)=>True) ?_ ?_
 .refine DP (λd=>(Ot b r).at d/\(Ac x.bh 91 x.cells).at d) I St.drawn (Aq 0 I yE uf<|Aq 1 I yE zQ<|Aq 2 I yE jP<|Aq 3 I yE nV<|Aq 4 I yE uf<|Aq 5 I yE zQ<|Aq 6 I yE (AU I BS I Z3 I I)<|Aq 7 I yE (Aj I G3 I uO eF)<|QZ 8 12 I ?_ ?_)
  .refine Ee [_] (LM h n) I call116 Tt (λs _=>Pre.world (St _ _<|_::_::_::_::_::HQ.H x) Ih<|Ai WI<|Aq 9 I WI uf<|Aq 10 I WI (Qx I)<|Aq 11 I WI (Qx I)<|Ay 12 I<|Ax I I I zeroValue135<|λa=>M NZ.c I<|Ai Xn<|sk ?_);exact Bf ((s,a)) trivial (Si I) Jx
  refine Ax I I I zeroValue135 (λa=>M NZ.c I<|Ai (H2 1 2 I)<|Ay 8 I<|Ee [_,_] (LM h n) I call116 Tt<|λs _=>Pre.world (St _ _<|_::_::_::_::_::_::HQ.H x) Ih<|yG ?_);exact Bf ((s,a)) trivial (Si I) Jx
 intro s a _;refine Ad<|Ad<|LZ (rg 8) 5832 (λd=>(Ot b r).at d/\(Ac x.bh 91 x.cells).at d/\(Ac a 135<|(⟨s,(x.q.M.at' i).nd⟩:NV).c).at d) I St.drawn ZAT<|Ht Bj I Eo I<|Dq I (Aj I H6 I Va I)<|Md 2 I<|Ht BS I MW I<|Dq I zm<|KC I<|E1 (KV (x.q.M.at' i).nd.piv r.k<|qM l.p A2) I call178 yp<|λ_ _=>KC I<|R I I uW<|AN<|Kt<|Y I<|Mv 3 I<|EJ Bj I OQ I<|Lo Pq 0 I<|U I Zy<|Mv 2 I<|Nk<|Sf 35 I (by show ¬((EL (x.q.M.at' i).nd.piv r.k:Nat):Int)<(((x.q.M.at' i).nd.kids.length:Nat):Int);rw[u];simp)<|Ab I<|Ah<|Ks<|D8 [(0,O),(1,O),(2,O),(3,O),(4,O),(5,O),(6,O),(7,O),(8,V),(9,O),(10,O),(11,O),(12,O),(13,O),(14,V),(15,W),(16,W),(17,W)] [15,16,17] [(_,O),(_,O),(_,O),(_,O),(_,O),(_,O),(_,O),(_,O),(_,V),(_,O),(_,O),(_,O),(_,O),(_,O),(_,V),(_,W),(_,W),(_,W)] (λd=>(∃cs,(Ac b 226 cs).at d/\(cs.drop 1).take 9=r.k.c)/\(Ac a 135 (⟨s,(x.q.M.at' i).nd⟩:NV).c).at d) rfl rfl rfl rfl St.drawn ZFI (Md 2 I<|Ht Bj I RQ I<|Dq I (Aj I UN I uS I)<|Dm I ?_)
 refine Dc I<|Ht BS I MW I<|Dq I (LN r.k.c I OO MW I uO Nw)<|MX I<|E1 (TX (x.q.M.at' i).nd.es r.k o<|qM l.e A2) I call181 RF<|λ_ _=>Ai ZFI<|Md 4 I<|Ht BS I O6 I<|B7<|MX I<|AF I I O6 I I Nw PU (by rw[Kv.oQ,Ie.oQ];decide)<|M (({r with v:=(Da (x.q.M.at' i).nd.es r.k).1}:Ie)).c (Ie.Xdp _ _)<|Ai (λ_ h=>⟨⟨_,h.at 0 rfl,Ie.fA _⟩,h.at 1 rfl⟩)<|KC I<|R I I zQ<|KC I<|R I I (AU I BS I Z4 I I)<|KC I<|AB I I Z4 I I I uI<|M (({({r with v:=(Da (x.q.M.at' i).nd.es r.k).1}:Ie) with f:=(Da (x.q.M.at' i).nd.es r.k).2}:Ie)).c (Ie.lD _ _)<|AN<|Ks<|Y I<|Mv 2 I<|EJ BS I Z4 I ?_
 refine U I (Aj I G4 I uP<|Ie.XcG _)<|Nk ?_;refine ES (λ(D:Unit)=>[(0,BM b),(1,BM x.bh)]) (λ(D:Unit)=>St w (dom<|Ot b r::x.H)<|Ac a 135 (⟨s,(x.q.M.at' i).nd⟩:NV).c::(Bo (⟨s,(x.q.M.at' i).nd⟩:NV)++(Ot b ({r with v:=(r.VL (x.q.M.at' i).nd.es).1,f:=(r.VL (x.q.M.at' i).nd.es).2}:Ie)::x.H))) (λ(D:Unit)=>True) ?_ ?_
 .refine Pre.PY 107 I (λg=>?_) (λg=>?_)
  .try simp only[B4] at g
   refine Am I<|D8 [(0,O),(1,O),(2,O),(3,O),(4,O),(6,O),(7,O),(8,O),(9,O),(10,O),(11,O),(12,O),(13,O),(5,V),(14,V),(15,O),(16,O),(17,O),(18,O),(19,O),(20,V),(21,W),(22,W),(23,W)] [21,22,23] [(_,O),(_,O),(_,O),(_,O),(_,O),(_,O),(_,O),(_,O),(_,O),(_,O),(_,O),(_,O),(_,O),(_,V),(_,V),(_,O),(_,O),(_,O),(_,O),(_,O),(_,V),(_,W),(_,W),(_,W)] (λd=>∃cs,(Ac b 226 cs).at d/\(cs.drop 15).take 29=r.m.c/\cs[62]?=some (.bool (Da (x.q.M.at' i).nd.es r.k).2)) rfl rfl rfl rfl St.drawn yq (Md 4 I<|Ht BS I O6 I<|Md 2 I<|Ht BS I Z4 I<|Dq I (ag I G4 I<|λ_ ⟨cs,h1,_,h3⟩=>⟨cs,h1,h3⟩)<|Md 2 I<|Ht BS I Bi I<|Dq I (LN r.m.c I Ck Bi I (λ_ ⟨cs,h1,h2,_⟩=>⟨cs,h1,h2⟩) OM)<|MX I<|R I I (Cq ((Da (x.q.M.at' i).nd.es r.k).1.c) Tz O6 0 I (Ie.Xdy _) Nw)<|Ai yq<|MX I<|E1 (Iu (Da (x.q.M.at' i).nd.es r.k).1 (Da (x.q.M.at' i).nd.es r.k).2 r.m) I call159 Tt ?_);intro _ _;rw[<-Xia g];refine Ai yq<|Md 4 I<|Ht BS I O6 I<|MX I<|AF I I O6 I I Nw PU (by rw[Kv.oQ,Ie.oQ];decide)<|M (({({({r with v:=(Da (x.q.M.at' i).nd.es r.k).1}:Ie) with f:=(Da (x.q.M.at' i).nd.es r.k).2}:Ie) with v:=(r.VL (x.q.M.at' i).nd.es).1}:Ie)).c (Ie.Xdp _ _)<|Ai yq<|KC I<|R I I zQ<|KC I<|R I I (AU I BS I Z4 I I)<|KC I<|AB I I Z4 I I I uI<|M (({({({({r with v:=(Da (x.q.M.at' i).nd.es r.k).1}:Ie) with f:=(Da (x.q.M.at' i).nd.es r.k).2}:Ie) with v:=(r.VL (x.q.M.at' i).nd.es).1}:Ie) with f:=(r.VL (x.q.M.at' i).nd.es).2}:Ie)).c (Ie.lD _ _)<|AN<|Pm [6,6,6,6,6,6] I ?_;refine Pm [7,7,7,7,7,6] I ?_;exact Bf (()) trivial (Si I) Jx
  try simp only[B4] at g
  refine Ab I<|Ah<|Pm [1,1,1,1,1] I ?_;exact Bf (()) trivial (Si I) (λ_ h=>by rw[fg g];exact h)
 intro D _;refine Ad<|LZ (rg 10) 39366 _ I St.drawn Ih<|Md 3 I<|Ht BS I Z3 I<|Dq I (Aj I G3 I Ve I)<|Md 2 I<|Ht BS I Z3 I<|Dq I (Aj I G3 I Ve eF)<|KC I<|Ee [_,_,_,_,_,_] (JN h J n C) I call122 Tt ?_;rintro⟨y,v⟩ ⟨A,K,N⟩;refine Pre.world (St _ _<|_::_::_::_::_::_::HQ.H y) Ih ?_;refine AN<|Kt<|Cr I<|Mv 3 I<|EJ BS I Z3 I<|B7<|Z I<|AB I I Z3 I I I uI<|M (({({r with v:=(r.VL (x.q.M.at' i).nd.es).1,f:=(r.VL (x.q.M.at' i).nd.es).2}:Ie) with at':=6}:Ie)).c Xq<|Lc I<|EJ BS I Z4 I<|Z I<|AB I I Z4 I I I uI<|M (({({({r with v:=(r.VL (x.q.M.at' i).nd.es).1,f:=(r.VL (x.q.M.at' i).nd.es).2}:Ie) with at':=6}:Ie) with pin:=false}:Ie)).c dh<|AE<|AW<|Pm [6,6,6,6,6,6] I ?_;exact Pm [7,7,7,7,7,6] I<|m<|m<|m<|m<|m<|Bl I<|λ_ C=>⟨y,rfl,⟨A,K,N⟩,C⟩
def kA (h:x.Ok B) (b:Nat) (r:Ie) (m:OJ r.t) (a:x.hm.may r.t) (y:r.at'=5) {i:Nat} (f:x.q.M.Me (r.blk:Int) 2=some i) (d:Bt Ms.key (x.q.M.at' i).nd.msgs) {c:Nat} (z:(x.q.M.at' i).nd.kids[EL (x.q.M.at' i).nd.piv r.k]?=some (c:Int)):Df prog 77 [BM b,BM x.bh] Tr (Ot b r::x.H) (λ_:Unit=>.bool false) Tr (λ_=>Ot b (r.down (x.q.M.at' i).nd.msgs c)::x.H):=by
 intro w l g;refine Ey func77 I g<|Y I<|A I<|IQ 0 I<|E<|Y I<|C 2 I<|N BS I Z3 I<|U I N2<|C 2 I<|Sb 10 false I zd<|C 3 I<|N BS I Z3 I<|Lo G3 0 I<|Z I<|Ee [_] (FI h r.t) I call82 Tt<|λ_ _=>Pre.world (St _ _<|_::HQ.H x) Ih ?_
 refine LH 16 (.bool true) I Vl<|C 2 I<|G<|Ab I<|Ah<|Ks<|Y I<|C 2 I<|N BS I Z3 I<|U I N2<|G<|Af<|Y I<|U I (Qe I)<|A I<|Sb 23 false I zd<|Ab I<|Y I<|U I (Qe I)<|A I<|Sb 52 false I zd<|Ab I ?_;refine Y I<|U I (Qe I)<|A I<|Sb 67 false I zd<|Ab I<|Y I<|U I (Qe I)<|A I<|Sb 89 false I zd<|Ab I<|Ah<|Au<|Kt<|Y I<|C 2 I<|Z I<|Ee [] (Xh9 h b r f d z) I call123 Tt<|λ_ _=>Pre.world (St _ _<|_::HQ.H x) Ih ?_
 exact Ns<|Xbq<|Kt<|Y I<|C 2 I<|N BS I Z3 I<|U I N2<|U I (Qe I)<|A I<|s<|Mz<|Av I I<|λ_ e=>⟨(),rfl,T0,e⟩
def mN (h:x.Ok B) (b:Nat) (r:Ie) (k:OJ r.t) (a:x.hm.may r.t) (z:r.at'=5) {i:Nat} (m:x.q.M.Me (r.blk:Int) 2=some i) (d:(x.q.M.at' i).nd.kids=[]) (c:Dl (x.q.M.at' i).nd.es) (f:FH (x.hm.OG i) r.t):Df prog 77 [BM b,BM x.bh] Tr (Ot b r::x.H) (λy:HQ=>.bool true) (λy=>y.bh=x.bh/\y.Ok B/\y.hm=x.hm.leave i r.t r.blk) (λy=>Ot b (r.fin (x.q.M.at' i).nd.es)::y.H):=by
 intro w o g;refine Ey func77 I g<|Y I<|A I<|IQ 0 I<|E<|Y I<|C 2 I<|N BS I Z3 I<|U I N2<|C 2 I<|Sb 10 false I uU<|C 3 I<|N BS I Z3 I<|Lo G3 0 I<|Z I<|Ee [_] (FI h r.t) I call82 Tt<|λ_ _=>Pre.world (St _ _<|_::HQ.H x) Ih ?_
 refine LH 16 (.bool true) I Vl<|wO ?_;refine Y I<|U I (Qe I)<|A I<|Sb 67 false I uU<|Ab I<|Y I<|U I (Qe I)<|A I<|Sb 89 false I uU<|Ab I<|Ah<|Au<|Kt<|Y I<|C 2 I<|Z I<|Ee [] (an h b r k m d c f) I call123 Tt ?_;rintro y ⟨e,l,n⟩;refine Pre.world (St _ _<|_::HQ.H y) Ih ?_;exact Ns<|Xbq<|Kt<|Y I<|C 2 I<|N BS I Z3 I<|U I N2<|U I (Qe I)<|A I<|s<|Mz<|Av I I<|λ_ f=>⟨y,rfl,⟨e,l,n⟩,f⟩
def XK (a b:c3):Bs b a = -Bs a b:=J2 _ _
def XkS {l:ct} {m:Ms} (f:Dl l) (v:∀e∈l,OI e.key=true) (hm:OI m.key):Dl (Dw l m):=by
 have y:∀a∈l.take (Dn l m.key),∀b∈l.drop (Dn l m.key),Bs a.key b.key<0:=by
  have p:(l.take (Dn l m.key)++l.drop (Dn l m.key)).Pairwise (λa b:En=>Bs a.key b.key<0):=by rw[qV];exact f
  exact (tU.1 p).2.2
 have n:∀a∈l.take (Dn l m.key),Bs a.key m.key<0:=λa g=>by
  obtain⟨j,hj⟩:=tj.1 g;rw[pM] at hj;split at hj
  .rename_i hlt;exact XfK hlt hj
  cases hj
 have z:∀b∈Hz l m,b.key=m.key:=λb x=>by
  unfold Hz at x;split at x
  .simp at x;rw[x]
  simp at x
 have c:∀b∈l.drop (Dn l m.key+(if V3 l m.key=true then 1 else 0)),Bs m.key b.key<0:=λb x=>by
  obtain⟨j,hj⟩:=tj.1 x;rw[pP] at hj;by_cases hl:V3 l m.key=true
  .rw[pN hl] at hj;obtain⟨e,p,q,_⟩:=P4 hl;have:=CV f _ _ e b J p hj;rwa[q] at this
  rw[pQ hl] at hj;have t:=L6 (k:=m.key) f J hj
  have w:Bs m.key b.key≠0:=λu=>by
   have o:=v b<|ry hj;have r:b.key=m.key:=(XaK hm o<|Ip u).symm;rcases qg j with h|h
   .subst h;refine hl ?_;unfold V3;rw[show Dn l m.key+0+0=Dn l m.key by omega] at hj;rw[hj];exact sT r
   obtain⟨d,hd⟩:∃d,l[Dn l m.key]?=some d:=mJ
   have s:=CV f _ _ d b J hd hj;rw[r] at s;exact L6 f (qb _) hd s
  have q:=XK b.key m.key;omega
 have i:∀b∈l.drop (Dn l m.key+(if V3 l m.key=true then 1 else 0)),b∈l.drop (Dn l m.key):=λb x=>by
  rw[<-pX] at x;exact xq
 unfold Dw Dl;rw[qQ];refine tU.2 ⟨f.sublist<|tV _ _,tU.2 ⟨?_,f.sublist<|List.drop_sublist _ _,λa g b x=>by rw[z a g];exact c b x⟩,λa g b x=>?_⟩
 .unfold Hz;split
  .exact um
  exact List.Pairwise.nil
 rcases rB.1 x with h|h
 .rw[z b h];exact n a g
 exact y a g b<|i b h
def XlQ {v:Kv 16} (h:Qd v):0<=v.n:=by
 unfold Qd at h;rcases Int.lt_or_le v.n 0 with x|x
 .exfalso;unfold Ds at h;simp at h;omega
 exact x
def Xc7:∀{es:ct},(∀e∈es,OI e.key=true/\Qd e.val=true)->2*(es.length:Int)<=lby es
 |[],_=>by simp[lby]
 |e::es,h=>by
  have d:=Xc7 (es:=es)<|λx y=>h x<|sr _ y
  obtain⟨z,a⟩:=h e<|rW ..
  obtain⟨m,hm,_⟩:=EI z
  have c:=XlQ a
  have b:lby (e::es)=S9 e+lby es:=by simp[lby]
  rw[b,pz]
  unfold S9
  omega
def Nt (k:Kv 16):∃a b c d e f g h a2 b2 c2 d2 e2 f2 g2 h2:Int,k.b=[a,b,c,d,e,f,g,h,a2,b2,c2,d2,e2,f2,g2,h2]:=by
 obtain⟨n,b,len,_,_⟩:=k
 match b,len with
 |[a,b,c,d,e,f,g,h,a2,b2,c2,d2,e2,f2,g2,h2],_=>exact⟨a,b,c,d,e,f,g,h,a2,b2,c2,d2,e2,f2,g2,h2,rfl⟩
structure Wr where
 t:Int
 m:Ms
 at':Int
 pin:Bool
 room:d0
 e:Int
def Ms.oT (m:Ms) (s:Int) (h:(Lit.int .u64 s).wf=true):Ms:={m with seq:=s,ws:=h}
def Ms.lG (m:Ms) (s:Int) (h:(Lit.int .u64 s).wf):m.c.set 1 (am s)=(m.oT s h).c:=rfl
namespace Wr
def four (w:Wr):bi:=[aa w.at',.bool w.pin,w.room,aa w.e]
def c (w:Wr):bi:=(aa w.t::w.m.c)++w.four
def oQ (w:Wr):w.c.length=34:=by simp[c,four,Ms.oQ]
def YU (w:Wr):(aa w.t::w.m.c).length=30:=by simp[Ms.oQ]
def mid (w:Wr) {j:Nat} {v:d0} (h:w.four[j]?=some v):w.c[30+j]?=some v:=by
 unfold c;rw[pO (by rw[YU];omega),YU,tT];exact h
def kW (w:Wr):(w.c.drop 1).take 29=w.m.c:=by
 unfold c;rw[pt,ra,pU];exact List.take_left' OM
def set_mid {w x:Wr} (y:x.t=w.t) (hm:x.m=w.m) (h:w.four.set j v=x.four):w.c.set (30+j) v=x.c:=by
 unfold c;rw[rJ _ _ (by rw[YU];omega),YU,tT,h,y,hm]
end Wr
abbrev Q9 (b:Nat) (w:Wr):Nr:=Ac b 229 w.c
def XgX (t ki sq x a b c d e f g h z A q n B m s r y k i j p C v l o u:Int) (w:d7):(Instr.build 229 #[(0,aa t),(1,.agg [aa ki,am sq,aa x,ab a,ab b,ab c,ab d,ab e,ab f,ab g,ab h,aa z,ab A,ab q,ab n,ab B,ab m,ab s,ab r,ab y,ab k,ab i,ab j,ab p,ab C,ab v,ab l,ab o,am u].toArray)]).run prog w=.ok (.agg [aa t,aa ki,am sq,aa x,ab a,ab b,ab c,ab d,ab e,ab f,ab g,ab h,aa z,ab A,ab q,ab n,ab B,ab m,ab s,ab r,ab y,ab k,ab i,ab j,ab p,ab C,ab v,ab l,ab o,am u,aa 0,.bool false,av,aa 0].toArray) w:=by kernel_rfl
def ao (t:Int) (m:Ms) (w:d7):(Instr.build 229 #[(0,aa t),(1,.agg m.c.toArray)]).run prog w=.ok (.agg (Wr.c ⟨t,m,0,false,av,0⟩).toArray) w:=by
 obtain⟨ki,sq,key,val,by',D,C,H⟩:=m;obtain⟨a,b,c,d,e,f,g,h,E⟩:=G1 key;obtain⟨v,q,l,A,k,s,r,x,i,y,z,p,B,u,j,o,G⟩:=Nt val
 have F:(Ms.c ⟨ki,sq,key,val,by',D,C,H⟩)=[aa ki,am sq,aa key.n,ab a,ab b,ab c,ab d,ab e,ab f,ab g,ab h,aa val.n,ab v,ab q,ab l,ab A,ab k,ab s,ab r,ab x,ab i,ab y,ab z,ab p,ab B,ab u,ab j,ab o,am by']:=by
  unfold Ms.c Kv.c;rw[E,G];rfl
 unfold Wr.c;dsimp only;rw[F];exact XgX t ki sq key.n a b c d e f g h val.n v q l A k s r x i y z p B u j o by' w
def XgY (t x a b c d e f g h:Int) (w:d7):(Instr.build 226 #[(0,aa t),(1,.agg [aa x,ab a,ab b,ab c,ab d,ab e,ab f,ab g,ab h].toArray),(2,aa 1),(3,aa 0)]).run prog w=.ok (.agg [aa t,aa x,ab a,ab b,ab c,ab d,ab e,ab f,ab g,ab h,aa 1,aa 0,aa 0,.bool false,.bool false,aa 0,am 0,aa 0,ab 0,ab 0,ab 0,ab 0,ab 0,ab 0,ab 0,ab 0,aa 0,ab 0,ab 0,ab 0,ab 0,ab 0,ab 0,ab 0,ab 0,ab 0,ab 0,ab 0,ab 0,ab 0,ab 0,ab 0,ab 0,am 0,.bool false,aa 0,ab 0,ab 0,ab 0,ab 0,ab 0,ab 0,ab 0,ab 0,ab 0,ab 0,ab 0,ab 0,ab 0,ab 0,ab 0,ab 0,.bool false].toArray) w:=by kernel_rfl
def aq (t:Int) (k:c3) (w:d7):(Instr.build 226 #[(0,aa t),(1,.agg k.c.toArray),(2,aa 1),(3,aa 0)]).run prog w=.ok (.agg (Ie.c ⟨t,k,1,0,0,false,false,ms0,false,Na 16,false⟩).toArray) w:=by
 obtain⟨a,b,c,d,e,f,g,h,x⟩:=G1 k
 have y:k.c=[aa k.n,ab a,ab b,ab c,ab d,ab e,ab f,ab g,ab h]:=by
  unfold Kv.c;rw[x];rfl
 unfold Ie.c Ie.hd;dsimp only;rw[y];exact XgY t k.n a b c d e f g h w
section
variable {P:d8} {n:Nat} {L:Env} {o:Oper} {Q:aB} {K:aO} {w0:d7} {D:bm}
def FD {β:Type} {v:β->d0} {p:β->Prop} {E:aU} {HA:ci} {HB:β->ci} {g:d5} {f:FuncId} {xs:bx} {i:ca} {d:Nat} {vs:bi} (pre:ci) (s:Df P f vs E HA v p HB) (j:o.op=.call ⟨.value g,xs.toArray,i⟩) (hd:o.dst=some d) (c:d.blt n) (k:ev L g=some (.func (.func f) #[] #[]))
 (z:∀us w,(callFunc f us).run P w=.ok (.enter f us) w) (a:evs L xs=some vs) (y:∀w,St w0 D (pre++HA) w->E w) (h:∀b,p b->Pre n ((d,v b)::L) (St w0 D<|pre++HB b) K):Nl P n L (St w0 D<|pre++HA) o Q K :=
 Hr (us:=[]) j hd c k z a (λw x=>by rw[sG];exact (s.frame (F:=pre) (x.perm sV)<|y w x).mono ZKc) h
end
abbrev lC (t at':Int) (lo:Int) (has pin root:Bool) (e:Int):bi:=[aa t,.bool true,aa at',aa 0,aa lo,.bool has,.bool pin,.bool root,aa e]
abbrev lQ (b:Nat) (t at':Int) (has:Bool) (e:Int):Nr:=Ac b 249<|lC t at' 0 has false true e
def H9 (e:Int):Int×Bool:=if e=1\/e=2 then (2,true) else if e=3 then (1,true) else (0,false)
def Xk0 (h:x.Ok B) {t:Int} (o:OJ t) (b:Nat) (m:Ms) (sq:Int) (n:B+1<=60000) (l:x.s.us[0]?=some true):Df prog 182 [BM b,BM x.bh,am sq] Tr (Q9 b (⟨t,m,0,false,av,0⟩:Wr)::x.H) (λy:HQ=>.bool false) (λy=>y.bh=x.bh/\y.Ok (B+1)/\y.hm=(x.hm.pin t ap).2) (λy=>Q9 b (⟨t,m,(H9 (x.hm.pin t ap).1).1,(H9 (x.hm.pin t ap).1).2,av,0⟩:Wr)::y.H):=by
 intro w p i;refine Ey func182 I i<|Y I<|A I<|E<|Y I<|C 3 I<|N B1 I Z3 I<|Lo G3 0 I ?_;have g:=I5 x.hm t ap;refine Z I<|Ee [_] (eS h n t (k:=0) l A2) I call121 Tt ?_;rintro y ⟨a,e,f⟩;refine VK ?_;refine G<|Af<|E<|Y I<|dW ?_;rcases g with z|z|z|z|z
 .refine LH 12 (aa 0) I U8 (XdW ?_);exact Pm [5,5] I vz
 .refine LH 12 (aa 1) I U8 (Sb 13 true I km<|Am I<|Ah<|Kt<|Am I<|Cr I<|C 3 I<|N B1 I Z3 I<|Z I<|AB I I Z3 I I I vH<|M ((⟨t,m,2,false,av,0⟩:Wr)).c YO<|Lc I<|N B1 I Z4 I<|Z I<|AB I I Z4 I I I vH<|M ((⟨t,m,2,true,av,0⟩:Wr)).c kF<|AE<|Au<|Kt<|Y I<|A I ?_);exact s vz
 .refine LH 12 (aa 2) I U8 (Sb 13 false I km<|Ab I<|Cr I<|U I (Qe I)<|A I<|Sb 13 true I km<|Am I<|Cr I<|C 3 I<|N B1 I Z3 I<|Z I<|AB I I Z3 I I I vH<|M ((⟨t,m,2,false,av,0⟩:Wr)).c YO<|Lc I<|N B1 I Z4 I<|Z I<|AB I I Z4 I I I vH<|M ((⟨t,m,2,true,av,0⟩:Wr)).c kF<|AE<|Au<|Kt ?_);exact Y I<|A I<|s vz
 .refine LH 12 (aa 3) I U8 (Sb 13 false I km<|Ab I<|Cr I<|U I (Qe I)<|A I<|Sb 13 false I km<|Ab I<|Y I<|U I (Qe I)<|A I<|Sb 22 true I km<|Am I<|Cr I<|C 3 I<|N B1 I Z3 I<|Z I<|AB I I Z3 I I I vH<|M ((⟨t,m,1,false,av,0⟩:Wr)).c YO<|Lc I<|N B1 I Z4 I<|Z I ?_);exact AB I I Z4 I I I vH<|M ((⟨t,m,1,true,av,0⟩:Wr)).c kF<|AE<|Au<|Kt<|Y I<|A I<|s vz
 refine LH 12 (aa 4) I U8 (XdW ?_);exact Pm [5,5] I vz
def kB (h:x.Ok B) {t:Int} (q:OJ t) (b:Nat) (m:Ms) (sq:Int) (e:x.s.us[0]?=some true) (f:Cw (0:Int) x.rd=some t) {bk:Bk} (n:x.s.bl[0]?=some bk) {nd:Nd} (hd:IE bk.l nd) (z:nd.Sm 1000):Df prog 183 [BM b,BM x.bh,am sq] Tr (Q9 b (⟨t,m,1,true,av,0⟩:Wr)::x.H) (λy:HQ=>.bool false) (λy=>y.bh=x.bh/\y.Ok B/\y.hm=x.hm.load 0 nd) (λy=>Q9 b (⟨t,m,2,true,av,0⟩:Wr)::y.H):=by
 intro w r d;refine Ey func183 I d<|Y I<|A I<|Y I<|C 3 I<|N B1 I Z3 I<|Lo G3 0 I<|Z I<|Ee [_] (VF (k:=0) h e f n hd z) I call85 Tt ?_;rintro⟨y,v,p⟩ ⟨a,g,o⟩;refine VK ?_;exact G<|Y I<|C 2 I<|N B1 I Z3 I<|Z I<|AB I I Z3 I I I vH<|M ((⟨t,m,2,true,av,0⟩:Wr)).c YO<|G<|Y I<|A I<|s<|Av I I<|λ_ i=>⟨y,rfl,⟨a,g,o⟩,i⟩
def Xkc (h:x.Ok B) {t:Int} (d:OJ t) (b:Nat) (m:Ms) (sq:Int) (f:B+1<=60000) {i:Nat} (k:x.q.M.Me 0 2=some i):Df prog 184 [BM b,BM x.bh,am sq] Tr (Q9 b (⟨t,m,2,true,av,0⟩:Wr)::x.H) (λy:HQ=>.bool false) (λy=>y.bh=x.bh/\y.Ok (B+1)/\y.hm=x.hm.take i t true) (λy=>Q9 b (⟨t,m,3,true,av,0⟩:Wr)::y.H):=by
 intro w o a;refine Ey func184 I a<|Y I<|A I<|Y I<|C 3 I<|N B1 I Z3 I<|Lo G3 0 I<|Z I<|Ee [_] (lK h d k f true) I call86 Tt ?_;rintro⟨y,n⟩ ⟨z,e,l⟩;refine VK ?_;exact G<|Y I<|C 2 I<|N B1 I Z3 I<|Z I<|AB I I Z3 I I I vH<|M ((⟨t,m,3,true,av,0⟩:Wr)).c YO<|G<|Y I<|A I<|s<|Av I I<|λ_ g=>⟨y,rfl,⟨z,e,l⟩,g⟩
def QA (h:x.Ok B) {t:Int} (f:OJ t) (b:Nat) (m:Ms) (e:Int) {i:Nat} (k:x.q.M.Me 0 2=some i) (a:FH (x.hm.OG i) t) (a0:Int) (SK:d0):Df prog 254 [BM b,BM x.bh,aa e] Tr (Q9 b (⟨t,m,a0,true,SK,0⟩:Wr)::x.H) (λy:HQ=>.tuple #[]) (λy=>y.bh=x.bh/\y.Ok B/\y.hm=x.hm.leave i t 0) (λy=>Q9 b (⟨t,m,5,false,av,e⟩:Wr)::y.H):=by
 intro w n d;refine Ey func254 I d<|Y I<|C 3 I<|N B1 I Z3 I<|Lo G3 0 I<|Z I<|Ee [_] (JN h f k a) I call122 Tt ?_;rintro⟨y,v⟩ ⟨z,g,l⟩;refine VK ?_;refine G<|Cr I<|C 6 I<|N B1 I Z3 I<|Z I<|AB I I Z3 I I I vH<|M ((⟨t,m,5,true,SK,0⟩:Wr)).c YO<|Lc I<|N B1 I Z4 I<|Z I<|AB I I Z4 I I I vH<|M ((⟨t,m,5,false,SK,0⟩:Wr)).c kF<|Lc I<|N B1 I JC I<|Z I<|AB I I JC I I I vH<|M ((⟨t,m,5,false,av,0⟩:Wr)).c yP<|Lc I<|N B1 I TN I ?_;exact Z I<|AB I I TN I I I vH<|M ((⟨t,m,5,false,av,e⟩:Wr)).c (Wr.set_mid (j:=3) I I I)<|AE<|AW<|Bl I<|λ_ a=>⟨y,rfl,⟨z,g,l⟩,a⟩
def XbE {M:Mo} {b:Int} (h:M.Me b 2=some i) (nd:Nd):(M.N7 b nd).2.Me b 2=some i:=by
 obtain⟨c,f⟩:=Eg h;have hi:i<M.fr.length:=(qp.1 (Dd c).choose_spec.1).1;have g:(M.N7 b nd).2=M.put i {M.at' i with dirty:=true,nd:=nd}:=by unfold Mo.N7 Mo.ready;rw[h]
 rw[g];obtain⟨y,m,d,a⟩:=Dd c;have x:M.at' i=y:=by unfold Mo.at';rw[sY,m];rfl
 have k:(M.put i {M.at' i with dirty:=true,nd:=nd}).find b=some i:=by
  refine Db (y:={M.at' i with dirty:=true,nd:=nd}) (tE hi) (by rw[x];exact d)<|λz l=>?_
  obtain⟨j,hj⟩:=tj.1 l;rw[pM] at hj;split at hj
  .rename_i hlt;have:(M.fr.set i {M.at' i with dirty:=true,nd:=nd})[j]?=M.fr[j]?:=tW J;exact a j z hlt<|this▸hj
  cases hj
 unfold Mo.Me;rw[k]
 have e:(M.put i {M.at' i with dirty:=true,nd:=nd}).at' i={M.at' i with dirty:=true,nd:=nd}:=by
  unfold Mo.at' Mo.put;rw[sY,tE hi];rfl
 simp only[e];rw[pN f]
def XcT (t:Int):Df prog 137 [aa t,.bool true] Tr [] (λx:Nat=>BM x) Tr (λx=>[lQ x t 1 true 0]):=by
 intro w z y;refine E0 func137 I y ?_;exact Y I<|A I<|Y I<|C 2 I<|U I (AS (lC t 1 0 true false true 0) I I uX)<|Z I<|AT I I I I<|λx=>M (lC t 1 0 true false true 0) I<|A I<|s zM
def ar (h:x.Ok B) {t:Int} (K:OJ t) (b:Nat) (m:Ms) (sq:Int) (a:(Lit.int .u64 sq).wf) {i:Nat} (l:x.q.M.Me 0 2=some i) (f:(x.q.M.at' i).nd.leaf) (r:Dl (x.q.M.at' i).nd.es) (g:Dl<|Dw (x.q.M.at' i).nd.es m) (E:(x.hm.OG i).wr=t) (C:FH (x.hm.OG i) t) (d:Gn<|DT (x.q.M.at' i).nd<|m.oT sq a) (j:(DT (x.q.M.at' i).nd<|m.oT sq a).Sm 1000):Df prog 185 [BM b,BM x.bh,am sq] Tr (Q9 b (⟨t,m,3,true,av,0⟩:Wr)::x.H) (λy:HQ=>.bool true) (λy=>y.bh=x.bh/\y.Ok B/\y.hm=(x.hm.N7 0<|DT (x.q.M.at' i).nd<|m.oT sq a).leave i t 0) (λy=>Q9 b (⟨t,m,5,false,av,0⟩:Wr)::y.H):=by
 intro w U N;have G:=h.Xz l;obtain⟨T,R⟩:=G;have A:((x.q.M.at' i).nd).Sm 1000:=h.q.ok.es _ ym;refine Ey func185 I N<|Y I<|Ak I<|Y I<|Mv 2 I<|EJ Pz I SS I<|Lo TW 1 I<|Z I<|Ee [_] (LM h l) I call116 Tt<|λs _=>Pre.world (St _ _<|_::_::_::_::_::HQ.H x) Ih ?_
 refine Mv 3 I<|Z I<|Ax I I I zeroValue135<|λO=>M NZ.c I<|Z I<|SW AK I Nc<|Ak I<|Y I<|Mv 2 I<|EJ B1 I Bi I<|Lq I xS<|Z I<|Ax I I I zeroValue154<|λS=>M ms0.c I<|Z I<|AF I I Bi I I OM RZ wm<|M (Ms.c m) wI<|Nk<|Y I<|Lm I<|EJ BR I Qb I<|Z I<|AB I I Qb I I I Za<|Bb (Ms.lG m sq a)<|Nk<|Y I<|Lq I yQ<|Lq I ZGv<|Z I<|AX (Kb (⟨s,(x.q.M.at' i).nd⟩:NV) (m.oT sq a) f r (by show Dl (Dw (x.q.M.at' i).nd.es m);exact g)<|A.mono A2) I I I call253 I aI ?_
 intro n _;refine LH 28 (.tuple #[.agg (⟨⟨n,s.k,s.p,s.m⟩,DT (x.q.M.at' i).nd<|m.oT sq a⟩:NV).c.toArray,.bool true]) I (by dsimp only;rw[pN<|show Gn (DT (x.q.M.at' i).nd<|m.oT sq a)=true from d])<|Mv 3 I<|AQ<|Z I<|SW AK I Nc<|Ak I<|Ad<|Y I<|Mv 2 I<|Nk<|Ab I<|Ah<|Ks<|LZ (rg 7) 1458 (λL=>(Q9 b (⟨t,m,3,true,av,0⟩:Wr)).at L/\(Ac O 135 (⟨⟨n,s.k,s.p,s.m⟩,DT (x.q.M.at' i).nd<|m.oT sq a⟩:NV).c).at L) I St.drawn (H2 3 0 I)<|Md 3 I<|Ht B1 I Z3 I<|Dq I zU<|Dq I (AH ((⟨⟨n,s.k,s.p,s.m⟩,DT (x.q.M.at' i).nd<|m.oT sq a⟩:NV).c) I AV AK I (λ_ h=>h.2) (I)<|I) ?_;refine Pm [0,1,2,1] I<|KC I<|Ee [_,_,_,_] (Xu h K l (nv:=(⟨⟨n,s.k,s.p,s.m⟩,DT (x.q.M.at' i).nd<|m.oT sq a⟩:NV)) E (by show BJ (DT (x.q.M.at' i).nd<|m.oT sq a)=true;unfold BJ;rw[pN<|show (DT (x.q.M.at' i).nd<|m.oT sq a).leaf=true from f];exact d) j) I call204 Tt ?_;rintro y ⟨e,P,J⟩;refine Pre.world (St _ _<|_::_::_::_::_::_::_::_::HQ.H y) Ih ?_;refine AN<|Kt<|Y I<|Mv 2 I<|Pm [0,0,0,1,1,1,1] I ?_;have u:y.q.M.Me 0 2=some i:=by rw[show y.q.M=(x.q.M.N7 0<|DT (x.q.M.at' i).nd<|m.oT sq a).2 from congrArg Hm.M J];exact XbE l _
 have D:FH (y.hm.OG i) t=true:=by rw[J];exact C
 refine LH 52 (BM y.bh) I (by rw[e])<|Z I<|Ee [_,_,_,_,_,_,_] (QA P K b m (0:Int) u D 3 av) I call254 Tt ?_;rintro z ⟨v,F,o⟩;refine Pre.world (St _ _<|_::_::_::_::_::_::_::_::HQ.H z) Ih ?_;exact Nk<|Y I<|Ak I<|Al<|Ae<|Ae<|Ae<|Ae<|Ae<|Ae<|Ae<|Av I I<|λ_ Q=>⟨z,rfl,⟨by rw[v,e],F,by rw[o,J]⟩,Q⟩
def Xic (h:x.Ok B) {t:Int} (L:OJ t) (b:Nat) (m:Ms) (sq:Int) (a:(Lit.int .u64 sq).wf) {i:Nat} (n:x.q.M.Me 0 2=some i) (g:(x.q.M.at' i).nd.leaf=false) (u:Bt Ms.key (x.q.M.at' i).nd.msgs) (j:Bt Ms.key<|Ek (x.q.M.at' i).nd.msgs<|m.oT sq a) (F:(x.hm.OG i).wr=t) (D:FH (x.hm.OG i) t) (d:G9<|D2 (x.q.M.at' i).nd<|m.oT sq a) (l:(D2 (x.q.M.at' i).nd<|m.oT sq a).Sm 1000):Df prog 185 [BM b,BM x.bh,am sq] Tr (Q9 b (⟨t,m,3,true,av,0⟩:Wr)::x.H) (λy:HQ=>.bool true) (λy=>y.bh=x.bh/\y.Ok B/\y.hm=(x.hm.N7 0<|D2 (x.q.M.at' i).nd<|m.oT sq a).leave i t 0) (λy=>Q9 b (⟨t,m,5,false,av,0⟩:Wr)::y.H):=by
 intro w V O;have J:=h.Xz n;obtain⟨U,S⟩:=J;have C:((x.q.M.at' i).nd).Sm 1000:=h.q.ok.es _ (by unfold Mo.at';rw[sY];obtain⟨z,r,_⟩:=Dd (Eg n).1;rw[r];exact ry r);refine Ey func185 I O<|Y I<|Ak I<|Y I<|Mv 2 I<|EJ Pz I SS I<|Lo TW 1 I<|Z I<|Ee [_] (LM h n) I call116 Tt<|λs _=>Pre.world (St _ _<|_::_::_::_::_::HQ.H x) Ih ?_
 refine Mv 3 I<|Z I<|Ax I I I zeroValue135<|λP=>M NZ.c I<|Z I<|SW AK I Nc<|Ak I<|Y I<|Mv 2 I<|EJ B1 I Bi I<|Lq I xS<|Z I<|Ax I I I zeroValue154<|λT=>M ms0.c I<|Z I<|AF I I Bi I I OM RZ wm<|M (Ms.c m) wI<|Nk<|Y I<|Lm I<|EJ BR I Qb I<|Z I<|AB I I Qb I I I Za<|Bb (Ms.lG m sq a)<|Nk<|Y I<|Lq I yQ<|Lq I ZGv<|Z I<|AX (Jr (⟨s,(x.q.M.at' i).nd⟩:NV) (m.oT sq a) g u j<|C.mono A2) I I I call253 I aI ?_
 intro o _;refine LH 28 (.tuple #[.agg (⟨⟨s.e,s.k,s.p,o⟩,D2 (x.q.M.at' i).nd<|m.oT sq a⟩:NV).c.toArray,.bool true]) I (by dsimp only;rw[pN<|show G9 (D2 (x.q.M.at' i).nd<|m.oT sq a)=true from d])<|Mv 3 I<|AQ<|Z I<|SW AK I Nc<|Ak I<|Ad<|Y I<|Mv 2 I<|Nk<|Ab I<|Ah<|Ks<|LZ (rg 7) 1458 (λN=>(Q9 b (⟨t,m,3,true,av,0⟩:Wr)).at N/\(Ac P 135 (⟨⟨s.e,s.k,s.p,o⟩,D2 (x.q.M.at' i).nd<|m.oT sq a⟩:NV).c).at N) I St.drawn (H2 3 0 I)<|Md 3 I<|Ht B1 I Z3 I<|Dq I zU<|Dq I (AH ((⟨⟨s.e,s.k,s.p,o⟩,D2 (x.q.M.at' i).nd<|m.oT sq a⟩:NV).c) I AV AK I (λ_ h=>h.2) (I)<|I) ?_;refine Pm [0,1,5,1,1,1,1] I<|KC I<|Ee [_,_,_,_] (Xu h L n (nv:=(⟨⟨s.e,s.k,s.p,o⟩,D2 (x.q.M.at' i).nd<|m.oT sq a⟩:NV)) F (by show BJ (D2 (x.q.M.at' i).nd<|m.oT sq a)=true;unfold BJ;rw[pQ<|by show ¬(x.q.M.at' i).nd.leaf=true;rw[g];decide];exact d) l) I call204 Tt ?_;rintro y ⟨f,Q,K⟩;refine Pre.world (St _ _<|_::_::_::_::_::_::_::_::HQ.H y) Ih ?_;refine AN<|Kt<|Y I<|Mv 2 I<|Pm [0,0,0,1,1,1,1] I ?_;have v:y.q.M.Me 0 2=some i:=by rw[show y.q.M=(x.q.M.N7 0<|D2 (x.q.M.at' i).nd<|m.oT sq a).2 from congrArg Hm.M K];exact XbE n _
 have E:FH (y.hm.OG i) t=true:=by rw[K];exact D
 refine LH 52 (BM y.bh) I (by rw[f])<|Z I<|Ee [_,_,_,_,_,_,_] (QA Q L b m (0:Int) v E 3 av) I call254 Tt ?_;rintro z ⟨A,G,r⟩;refine Pre.world (St _ _<|_::_::_::_::_::_::_::_::HQ.H z) Ih ?_;exact Nk<|Y I<|Ak I<|Al<|Ae<|Ae<|Ae<|Ae<|Ae<|Ae<|Ae<|Av I I<|λ_ R=>⟨z,rfl,⟨by rw[A,f],G,by rw[r,K]⟩,R⟩
def aw (h:x.Ok B) {t:Int} (b:Nat) (m:Ms) (sq:Int) (y:(Lit.int .u64 sq).wf) {i:Nat} (l:x.q.M.Me 0 2=some i) (k:(x.q.M.at' i).nd.leaf) (e:Dl (x.q.M.at' i).nd.es) (d:Dl<|Dw (x.q.M.at' i).nd.es m) (f:Gn (DT (x.q.M.at' i).nd<|m.oT sq y)=false):Df prog 185 [BM b,BM x.bh,am sq] Tr (Q9 b (⟨t,m,3,true,av,0⟩:Wr)::x.H) (λa:Nat=>.bool false) Tr (λa=>lQ a t 1 true 0::Q9 b (⟨t,m,4,true,(BM a),0⟩:Wr)::x.H):=by
 intro w D p;have n:=h.Xz l;obtain⟨A,u⟩:=n;have g:((x.q.M.at' i).nd).Sm 1000:=h.q.ok.es _ ym;refine Ey func185 I p<|Cs I<|Ak I<|Cs I<|Mv 2 I<|EJ Pz I SS I<|Lo TW 1 I<|LW I<|Ee [_] (LM h l) I call116 Tt<|λs _=>Pre.world (St _ _<|_::_::_::_::_::HQ.H x) Ih ?_
 refine Mv 3 I<|LW I<|Ax I I I zeroValue135<|λC=>Ce NZ.c I<|LW I<|SW AK I Nc<|Ak I<|Cs I<|Mv 2 I<|EJ B1 I Bi I<|Lq I xS<|LW I<|Ax I I I zeroValue154<|λv=>Ce ms0.c I<|LW I<|AF I I Bi I I OM RZ wm<|Ce (Ms.c m) wI<|Nk<|Cs I<|Lm I<|EJ BR I Qb I<|LW I<|AB I I Qb I I I Za<|Bb (Ms.lG m sq y)<|Nk<|Cs I<|Lq I yQ<|Lq I ZGw<|LW I<|AX (Kb (⟨s,(x.q.M.at' i).nd⟩:NV) (m.oT sq y) k e (by show Dl (Dw (x.q.M.at' i).nd.es m);exact d)<|g.mono A2) I I I call253 I aI ?_
 intro E _;refine LH 28 (.tuple #[.agg (⟨s,(x.q.M.at' i).nd⟩:NV).c.toArray,.bool false]) I (by dsimp only;rw[pQ<|show ¬Gn (DT (x.q.M.at' i).nd<|m.oT sq y)=true from by rw[f];decide])<|Mv 3 I<|AQ<|LW I<|SW AK I Nc<|Ak I<|Ad<|Cs I<|Mv 2 I<|Nk<|Am I<|Cs I<|Mv 4 I<|EJ B1 I Z3 I<|Lo G3 3 I<|LW I<|AX (XcT t) I I I call137 I Tt<|λa _=>Lc I<|XdI ?_
 exact ZBl
def Hm.fi (L:Hm) (b:Int):Nat:=(L.M.Me b 2).getD 0
def Hm.nd (L:Hm) (b:Int):Nd:=(L.M.at'<|L.fi b).nd
def Hm.SV {L:Hm} {b:Int} (h:(L.M.Me b 2).isSome):L.M.Me b 2=some (L.fi b):=by
 unfold Hm.fi;cases hx:L.M.Me b 2 with
 |none=>rw[hx] at h;cases h
 |some i=>rfl
def Hm.has (L:Hm) (t b:Int):Prop:=(L.M.Me b 2).isSome=true/\FH (L.OG<|L.fi b) t=true
structure Rm where
 keep:Bool
 a:Int
 up:Nat
 lo:Nat
 has:Bool
 pin:Bool
 root:Bool
 e:Int
def Rn (t:Int) (r:Rm):bi:=[aa t,.bool r.keep,aa r.a,aa (r.up:Int),aa (r.lo:Int),.bool r.has,.bool r.pin,.bool r.root,aa r.e]
abbrev O5 (b:Nat) (t:Int) (r:Rm):Nr:=Ac b 249<|Rn t r
def D3 (L:Hm) (t:Int) (r:Rm):Hm×Rm:=if r.up=0/\r.keep=true then (L,{r with has:=false}) else (L.leave (L.fi r.up) t r.up,{r with has:=false,root:=if r.up=0 then false else r.root})
def ax (L:Hm) (t:Int) (r:Rm):Prop:=¬(r.up=0/\r.keep=true)->L.has t r.up
def DU (L:Hm) (t:Int) (r:Rm) (e:Int):Hm×Rm:=((D3 L t r).1,{(D3 L t r).2 with a:=11,e:=e})
def Eu (L:Hm) (t:Int) (r:Rm):Hm×Rm:=(L.leave (L.fi r.lo) t r.lo,{r with pin:=false})
def GU (L:Hm) (t:Int) (r:Rm) (p:Nd):Hm×Rm :=
 if r.up=0/\p.leaf=true/\p.es.length<2 then DU L t r 0
 else if r.up=0/\(p.leaf=true\/p.kids.length=4) then (L,{r with a:=6})
 else match H7 p with
  |none=>DU L t r 0
  |some i=>(L,{r with lo:=(p.kids.getD i 0).toNat,a:=2})
def Hf (L:Hm) (t:Int) (r:Rm) (to:Int):Hm×Rm:=((L.claim t).2,if (L.claim t).1=true then {r with a:=to} else r)
def Nu (h:x.Ok B) {t:Int} (g:OJ t) (a:Nat) (r:Rm) (e:x.hm.has t r.lo):Df prog 205 [BM a,BM x.bh] Tr (O5 a t r::x.H) (λy:HQ=>.tuple #[]) (λy=>y.bh=x.bh/\y.Ok B/\y.hm=(Eu x.hm t r).1) (λy=>O5 a t (Eu x.hm t r).2::y.H):=by
 intro w l f;obtain⟨j,b⟩:=e;refine Ey func205 I f<|E<|LZ (rg 10) 39366 (λi=>(O5 a t r).at i) I St.drawn uP<|Md 3 I<|Ht Bu I Z3 I<|Dq I xB<|Md 2 I<|Ht Bu I Z3 I<|Dq I xB<|KC I<|Ee [_] (JN h g (x.hm.SV j) b) I call122 Tt ?_;rintro⟨y,k⟩ ⟨z,c,d⟩;dsimp only at z c d;refine Pre.world (St _ _<|_::HQ.H y) Ih ?_;exact AN<|Kt<|Cr I<|C 2 I<|N Bu I Z4 I<|Z I<|AB I I Z4 I I I (rO I)<|M (Rn t ({r with pin:=false}:Rm)) I<|AE<|AW<|Bl I<|λ_ b=>⟨y,rfl,⟨z,c,d⟩,b⟩
def XcH (h:x.Ok B) {t:Int} (o:OJ t) (d:Nat) (r:Rm) (n:ax x.hm t r):Df prog 206 [BM d,BM x.bh] Tr (O5 d t r::x.H) (λy:HQ=>.tuple #[]) (λy=>y.bh=x.bh/\y.Ok B/\y.hm=(D3 x.hm t r).1) (λy=>O5 d t (D3 x.hm t r).2::y.H):=by
 intro w u s;refine Ey func206 I s<|Y I<|C 2 I<|N Bu I Z4 I<|Z I<|AB I I Z4 I I I (rO I)<|M (Rn t ({r with has:=false}:Rm)) I<|Ns<|Y I<|C 2 I<|N Bu I Z3 I<|Lo G3 0 I<|U I (Qe I)<|G<|CB 11 I (λk=>?_)<|λk=>?_
 .have a:r.up=0:=by have q:((r.up:Nat):Int)=0:=k;omega
  refine Am I<|E<|Y I<|C 2 I<|N Bu I Z4 I<|Lo G4 0 I<|G<|Pre.PY 15 I (λj=>?_)<|λj=>?_
  .have hm:D3 x.hm t r=(x.hm,{r with has:=false}):=by unfold D3;rw[pN ⟨a,j⟩]
   exact Am I<|Al<|Ag<|Ag<|Bl I<|λ_ b=>⟨x,rfl,⟨rfl,h,Yq⟩,by rw[hm];exact b⟩
  have g:¬(r.up=0/\r.keep=true):=λe=>by have c:r.keep=false:=j;rw[e.2] at c;cases c
  have hm:D3 x.hm t r=(x.hm.leave (x.hm.fi r.up) t r.up,{r with has:=false,root:=false}):=by unfold D3;rw[pQ g,pN a]
  obtain⟨m,b⟩:=n g;refine Ab I<|Ah<|Kt<|Cr I<|C 2 I<|N Bu I Z4 I<|Z I<|AB I I Z4 I I I (rO I)<|M (Rn t ({r with has:=false,root:=false}:Rm)) I<|G<|LZ (rg 10) 39366 (λl=>(O5 d t ({r with has:=false,root:=false}:Rm)).at l) I St.drawn uP<|ZAw ?_;exact XdQ
 have a:¬r.up=0:=λe=>k (by show ((r.up:Nat):Int)=0;omega)
 have g:¬(r.up=0/\r.keep=true):=λe=>a e.1
 have hm:D3 x.hm t r=(x.hm.leave (x.hm.fi r.up) t r.up,{r with has:=false}):=by unfold D3;rw[pQ g,pQ a]
 obtain⟨m,b⟩:=n g;refine Ab I<|Ah<|Kt<|LZ (rg 10) 39366 (λl=>(O5 d t ({r with has:=false}:Rm)).at l) I St.drawn uP<|ZAw ?_;exact XdQ
def Nv (h:x.Ok B) {t:Int} (g:OJ t) (z:Nat) (r:Rm) (e:Int) (c:ax x.hm t r):Df prog 201 [BM z,BM x.bh,aa e] Tr (O5 z t r::x.H) (λy:HQ=>.tuple #[]) (λy=>y.bh=x.bh/\y.Ok B/\y.hm=(DU x.hm t r e).1) (λy=>O5 z t (DU x.hm t r e).2::y.H):=by
 intro w k i;refine Ey func201 I i<|Y I<|C 2 I<|Z I<|Ee [] (XcH h g z r c) I call206 Tt ?_;rintro y ⟨b,f,j⟩;refine Pw (St _ _<|O5 z t (D3 x.hm t r).2::HQ.H y) ?_;refine G<|Cr I<|C 4 I<|N Bu I Z3 I<|Z I<|AB I I Z3 I I I (rO I)<|M (Rn t ({(D3 x.hm t r).2 with a:=11}:Rm)) I<|Lc I<|N Bu I TN I<|Z I<|AB I I TN I I I (rO I)<|M (Rn t ({(D3 x.hm t r).2 with a:=11,e:=e}:Rm)) I<|AE<|AW ?_;exact Bl I<|λ_ d=>⟨y,rfl,⟨b,f,j⟩,d⟩
def Um (h:x.Ok B) {t:Int} (m:OJ t) (c:Nat) (r:Rm) (z:Int) (k:B+1<=60000):Df prog 140 [BM c,BM x.bh,aa z] Tr (O5 c t r::x.H) (λy:HQ=>.tuple #[]) (λy=>y.bh=x.bh/\y.Ok (B+1)/\y.hm=(Hf x.hm t r z).1) (λy=>O5 c t (Hf x.hm t r z).2::y.H):=by
 intro w n j;refine Ey func140 I j<|E<|LZ (rg 9) 13122 (λg=>(O5 c t r).at g/\(Ac x.bh 91 x.cells).at g) I St.drawn yE<|Md 2 I<|Ht Pz I SS I<|Dq I nV<|Md 2 I<|Ht Bu I Z3 I<|Dq I zU<|KC I<|Ee [_] (kh h k t) I call207 Tt ?_;rintro y ⟨b,l,f,i⟩;refine VK ?_;refine AN<|Kt<|Pre.PY 14 I (λd=>?_)<|λd=>?_
 .have hm:Hf x.hm t r z=((x.hm.claim t).2,{r with a:=z}):=by unfold Hf;rw[pN<|show (x.hm.claim t).1=true from d]
  exact Am I<|Cr I<|C 3 I<|N Bu I Z3 I<|Z I<|AB I I Z3 I I I (rO I)<|M (Rn t ({r with a:=z}:Rm)) I<|AE ZCW
 have hm:Hf x.hm t r z=((x.hm.claim t).2,r):=by unfold Hf;rw[pQ<|by rw[show (x.hm.claim t).1=false from d];decide]
 exact Ab I<|Ah ZCW