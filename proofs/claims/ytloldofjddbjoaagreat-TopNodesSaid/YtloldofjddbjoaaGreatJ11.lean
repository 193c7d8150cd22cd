/- Part 11. -/
import Derived.Test.YtloldofjddbjoaaGreatJ10
set_option linter.all false
set_option maxHeartbeats 8000000
set_option maxRecDepth 100000
namespace Go.Proofs.YtloldofjddbjoaaGreat
open Go.Sep Go.RowKit Tryz
variable {c b t u s:Int} {M:Mo} {i B:Nat} {x:HQ} {α β:Type} {y:Vw} {w:d7} {nd:Nd} {e1:Nr}
def fj (h:x.Ok B) {t:Int} (D:OJ t) (j:Nat) (r:Rm) (nv:NV) (E:nv.d.leaf=false->Bt Ms.key nv.d.msgs/\nv.d.piv.length+1=nv.d.kids.length) (o:nv.d.Sm 1000) (A:ax x.hm t r) (l:∀i,H7 nv.d=some i->i<nv.d.kids.length/\0<=nv.d.kids.getD i 0):Df prog 138 [BM j,BM x.bh,.agg nv.c.toArray] Tr (Ct nv.s.e nv.d.es::CT nv.s.k nv.d.kids::CU nv.s.p nv.d.piv::C5 nv.s.m nv.d.msgs::O5 j t r::x.H) (λy:HQ=>.tuple #[]) (λy=>y.bh=x.bh/\y.Ok B/\y.hm=(GU x.hm t r nv.d).1) (λy=>Ct nv.s.e nv.d.es::CT nv.s.k nv.d.kids::CU nv.s.p nv.d.piv::C5 nv.s.m nv.d.msgs::O5 j t (GU x.hm t r nv.d).2::y.H):=by
 intro w L F;have G:=o.e;have J:=o.k;refine Ey func138 I F<|Y I<|Z I<|AT I I I I<|λK=>Ce nv.c I<|Nk<|Y I<|U I hG<|Z I<|E1 (Xeq nv E o) I call200 yJ<|λ_ _=>Ak I<|Af<|Y I<|Mv 2 I<|N Bu I Z3 I<|Lo G3 5 I<|Mv 2 I ?_
 by_cases h1:r.up=0
 .have C:((r.up:Nat):Int)=0:=by omega
  rcases hl:nv.d.leaf with _|_
  .by_cases h4:nv.d.kids.length=4
   .have hm:GU x.hm t r nv.d=(x.hm,{r with a:=6}):=by unfold GU;rw[pQ (by rw[hl];simp),pN ⟨h1,.inr h4⟩]
    refine ug ?_;refine Sb 48 false I (hl)<|N Bj I OQ I<|Lo Pq 0 I<|U I Zy<|Mv 3 I<|Ak I<|Sb 39 true I HD<|Xeb ?_;exact Pm [4,4,4,4,4,3,3,3,3] I wh
   rcases hv:H7 nv.d with _|i
   .have hm:GU x.hm t r nv.d=DU x.hm t r 0:=by unfold GU;rw[pQ (by rw[hl];simp),pQ ZFb,hv]
    refine ug ?_;refine Sb 48 false I (hl)<|N Bj I OQ I<|Lo Pq 0 I<|U I Zy<|Mv 3 I<|Ak I<|Sb 39 false I HD<|Ab I<|Y I<|Mv 2 I<|Ak I<|Sb 58 true I HD<|Am I<|Cr I<|Mv 2 I<|Pm [7,7,7,7,7] I<|Pm [5,5,5,5,5,5,5] I<|mY ?_;exact uH
   have hm:GU x.hm t r nv.d=(x.hm,{r with lo:=(nv.d.kids.getD i 0).toNat,a:=2}):=by unfold GU;rw[pQ (by rw[hl];simp),pQ ZFb,hv]
   obtain⟨q,g⟩:=l i hv;obtain⟨k,b⟩:∃k,nv.d.kids[i]?=some k:=⟨_,pE q⟩
   have n:nv.d.kids.getD i 0=k:=by rw[sY,b];rfl
   rw[n] at g hm;refine ug ?_;refine Sb 48 false I (hl)<|N Bj I OQ I<|Lo Pq 0 I<|U I Zy<|Mv 3 I<|Ak I<|Sb 39 false I HD<|Ab I<|Y I<|Mv 2 I<|Ak I<|Sb 58 false I HD<|Ab I<|Cr I<|Mv 2 I<|N Bj I OQ I<|Lo Pq 0 I<|Lm I<|U I iE<|U I (AO i 0 I G3 I I ue b I) ?_;refine Lc I<|N Bu I Z3 I<|LH 6 (aa (i:Int)) I (I)<|B7<|Z I<|AB I I Z3 I I I (rO I)<|Ce (Rn t ({r with lo:=k.toNat}:Rm)) zR<|Lc I<|N Bu I Z3 I<|Z I<|AB I I Z3 I I I (rO I)<|Ce (Rn t ({r with lo:=k.toNat,a:=2}:Rm)) I<|AE<|Au<|AW<|Pm [4,4,0,3,3,3,3,3,3] I ?_;exact Pm [9,9,9] I wh
  by_cases h2:nv.d.es.length<2
  .have hm:GU x.hm t r nv.d=DU x.hm t r 0:=by unfold GU;rw[pN ⟨h1,hl,h2⟩]
   refine Sb 26 true I HD<|N Bj I Z4 I<|Lo G4 0 I<|Mv 2 I<|Sb 30 true I (hl)<|N Bj I RQ I<|Lo UN 0 I<|U I (AM I O8 I RF)<|Mv 2 I<|Ak I<|Sb 20 true I HD<|Am I<|Cr I<|Mv 2 I<|Pm [5,5,5,5,5,5,5] I<|Pm [7,7,7,7,7] I<|mY ?_;exact uH
  have hm:GU x.hm t r nv.d=(x.hm,{r with a:=6}):=by unfold GU;rw[pQ<|λe=>h2 e.2.2,pN ⟨h1,.inl hl⟩]
  refine Sb 26 true I HD<|N Bj I Z4 I<|Lo G4 0 I<|Mv 2 I<|Sb 30 true I (hl)<|N Bj I RQ I<|Lo UN 0 I<|U I (AM I O8 I RF)<|Mv 2 I<|Ak I<|Sb 20 false I HD<|Ab I<|Y I<|Mv 2 I<|N Bu I Z3 I<|Lo G3 5 I<|Mv 2 I<|Sb 45 true I HD<|N Bj I Z4 I<|Lo G4 0 I ?_;refine Lm I<|Sb 48 true I (hl)<|Mv 6 I<|Ak I<|Xeb ?_;exact Pm [4,4,4,4,4,3,3,3,3] I wh
 have C:¬((r.up:Nat):Int)=0:=by omega
 rcases hv:H7 nv.d with _|i
 .have hm:GU x.hm t r nv.d=DU x.hm t r 0:=by unfold GU;rw[pQ<|λe=>h1 e.1,pQ<|λe=>h1 e.1,hv]
  refine ZBQ ?_;refine Mv 5 I<|Ak I<|Ab I<|Y I<|Mv 2 I<|Ak I<|Sb 58 true I HD<|Am I<|Cr I<|Mv 2 I<|Pm [4,4,4,4,4,4,4,4] I<|Pm [8,8,8,8] I<|mY ?_;exact uH
 have hm:GU x.hm t r nv.d=(x.hm,{r with lo:=(nv.d.kids.getD i 0).toNat,a:=2}):=by unfold GU;rw[pQ<|λe=>h1 e.1,pQ<|λe=>h1 e.1,hv]
 obtain⟨q,g⟩:=l i hv;obtain⟨k,b⟩:∃k,nv.d.kids[i]?=some k:=⟨_,pE q⟩
 have n:nv.d.kids.getD i 0=k:=by rw[sY,b];rfl
 rw[n] at g hm;refine ZBQ ?_;refine Mv 5 I<|Ak I<|Ab I<|Y I<|Mv 2 I<|Ak I<|Sb 58 false I HD<|Ab I<|Cr I<|Mv 2 I<|N Bj I OQ I<|Lo Pq 0 I<|Lm I<|U I iE<|U I (AO i 0 I G3 I I ue b I)<|Lc I<|N Bu I Z3 I<|LH 6 (aa (i:Int)) I I ?_;refine B7<|Z I<|AB I I Z3 I I I (rO I)<|Ce (Rn t ({r with lo:=k.toNat}:Rm)) zR<|Lc I<|N Bu I Z3 I<|Z I<|AB I I Z3 I I I (rO I)<|Ce (Rn t ({r with lo:=k.toNat,a:=2}:Rm)) I<|AE<|Au<|AW<|Pm [1,1,1,1,1] I ?_;exact wh
def F0 (p:α->Bool) (l:List α):B8 p l=B8 id (l.map p):=by
 unfold B8
 induction l with
 |nil=>rfl
 |cons x l ih=>rw[qG,tD,tD,ih];rfl
def XbF (p:α->β) {l:List α} {i:Nat} {x y:α} (h:l[i]?=some x) (e:p y=p x):(l.set i y).map p=l.map p:=by
 apply qA;intro j;rw[qq,qq,tb];split
 .rename_i h1;subst h1;rw[pN (qp.1 h).1,h];simp[e]
 rfl
def Mc {b:Nat} (h:b<M.fr.length):M.fr[b]?=some (M.at' b):=by
 unfold Mo.at';rw[sY,pE h];rfl
def az {b c:Nat} (h:b<M.fr.length) (y:Vw):(M.put b y).at' c=if c=b then y else M.at' c:=by
 show (M.fr.set b y).getD c Cy=_
 rw[sY,tb];split
 .rename_i e;subst e;rw[pN rfl];rfl
 rename_i e;rw[pQ<|rQ e,<-sY];rfl
def XgZ {b:Nat} (h:b<M.fr.length) (z:y.st=(M.at' b).st) (x:y.blk=(M.at' b).blk) (c:Int):(M.put b y).find c=M.find c:=by
 show B8 (Oq c) (M.fr.set b y)=B8 (Oq c) M.fr
 rw[F0,F0 (Oq c) M.fr,XbF (Oq c) (Mc h)<|by unfold Oq;rw[z,x]]
def XbG {b:Nat} (h:b<M.fr.length) (x:y.st=(M.at' b).st) (z:y.blk=(M.at' b).blk) (c s:Int):(M.put b y).Me c s=M.Me c s:=by
 unfold Mo.Me;rw[XgZ h x z];cases M.find c with
 |none=>rfl
 |some i =>
  have:((M.put b y).at' i).st=(M.at' i).st:=by
   rw[az h];split
   .rename_i e;rw[x,e]
   rfl
  dsimp only;rw[this]
def Xcz (h:M.Me b s=some i):i<M.fr.length:=by
 obtain⟨z,_⟩:=Eg h;have a:B8 (Oq b) M.fr=some i:=z;obtain⟨x,y,_⟩:=Dd a;exact (qp.1 y).1
def VM (h:M.Me b s=some i):(M.at' i).blk=b:=by
 obtain⟨a,_⟩:=Eg h;have c:B8 (Oq b) M.fr=some i:=a;obtain⟨x,z,y⟩:=Dd c;have:M.at' i=x:=by unfold Mo.at';rw[sY,z];rfl
 rw[this];unfold Oq at y;simp only[qW,rA] at y;exact y.1.1
namespace Hm
variable {L:Hm}
def ZM (b:Int) (nd:Nd) (c s:Int):(L.N7 b nd).M.Me c s=L.M.Me c s:=by
 unfold Hm.N7 Mo.N7 Mo.ready;cases h:L.M.Me b 2 with
 |none=>rfl
 |some i=>exact XbG (y:={L.M.at' i with dirty:=true,nd:=nd}) (Xcz h) rfl rfl c s
def Xdl (b:Int) (nd:Nd) (c:Int):(L.N7 b nd).fi c=L.fi c:=by unfold Hm.fi;rw[ZM]
def Xh1 (b:Int) (nd:Nd) (j:Nat):(L.N7 b nd).OG j=L.OG j:=rfl
def aj (i:Nat) (t b:Int) (c s:Int):(L.leave i t b).M.Me c s=L.M.Me c s:=by
 show (L.M.Uf b).2.Me c s=_
 unfold Mo.Uf Mo.ready;cases h:L.M.Me b 2 with
 |none=>rfl
 |some j =>
  dsimp only;split
  .rfl
  exact XbG (y:={L.M.at' j with pins:=(L.M.at' j).pins-1}) (Xcz h) I I c s
def aD (i:Nat) (t b:Int) (c:Int):(L.leave i t b).fi c=L.fi c:=by unfold Hm.fi;rw[aj]
def Xg0 {j:Nat} (h:j≠i):(L.leave i t b).OG j=L.OG j:=by
 show (L.la.set i _).getD j Lt.newL=L.la.getD j Lt.newL
 rw[sY,tW<|rQ h,<-sY]
def Rz (L:Hm) (t b:Int):Prop:=(L.M.Me b 2).isSome=true/\(L.OG<|L.fi b).wr=t
def Rz.has (h:L.Rz t b):L.has t b:=⟨h.1,by unfold FH;rw[sT h.2];rfl⟩
def Rz.N7 (h:L.Rz t c) (b:Int) (nd:Nd):(L.N7 b nd).Rz t c:=⟨by rw[ZM];exact h.1,by rw[Xdl,Xh1];exact h.2⟩
def Xk1 (h:(L.M.Me b 2).isSome) (a:(L.M.Me c 2).isSome) (y:b≠c):L.fi b≠L.fi c:=λe=>by
 have x:=VM<|L.SV h;have z:=VM<|L.SV a
 rw[e,z] at x;exact y x.symm
def Rz.leave (h:L.Rz t c) (y:(L.M.Me b 2).isSome) (x:c≠b):(L.leave (L.fi b) u b).Rz t c:=⟨by rw[aj];exact h.1,by rw[aD,Xg0<|Xk1 h.1 y x];exact h.2⟩
end Hm
def IF (L:Hm) (t:Int) (r:Rm) (p c:Nd) (i:Nat):Hm×Rm :=
 if c.leaf=false/\c.kids.length=4 then (L,{r with a:=8})
 else if BJ (BG c<|MJ p i)=true then
  DU (Eu ((L.N7 r.up<|Bz p i).N7 r.lo<|BG c<|MJ p i) t r).1 t (Eu L t r).2 0
 else if c.leaf=true then (L,{r with a:=8})
 else ((D3 L t r).1,{(D3 L t r).2 with up:=(D3 L t r).2.lo,has:=true,pin:=false,a:=1})
structure Xc8 (L:Hm) (t:Int) (r:Rm) (p c:Nd) (i:Nat):Prop where
 up:L.Rz t r.up
 lo:L.Rz t r.lo
 ne:(r.up:Int)≠r.lo
 pl:SG p.kids (r.lo:Int)=some i
 plf:p.leaf=false
 pi:i<=p.piv.length
 ki:i<p.kids.length
 pr:Bt Ms.key p.msgs
 dr:Bt Ms.key (MJ p i)
 dn:MJ p i≠[]
 ok:IC c (MJ p i)
 sp:p.Sm 1000
 sc:c.Sm 1000
 st:(BG c (MJ p i)).Sm 1000
 fp:BJ (Bz p i)=true
 s2:(Bz p i).Sm 1000
def Xer (x y:NV) (i:Nat) (hi:i<=x.d.piv.length) (q:Bt Ms.key x.d.msgs) (n:Bt Ms.key<|MJ x.d i) (a:IC y.d<|MJ x.d i) (m:MJ x.d i≠[]) (o:x.d.Sm 1000) (f:y.d.Sm 1000) (z:x.d.leaf=false) (l:i<x.d.kids.length) (g:(BG y.d<|MJ x.d i).Sm 1000) (j:BJ<|BG y.d<|MJ x.d i):Df prog 202 [.agg x.c.toArray,.agg y.c.toArray,aa (i:Int)] (λw=>OE w x/\OE w y) [] (λb:Sv×Sv=>.tuple #[.agg (⟨⟨x.s.e,x.s.k,x.s.p,b.1⟩,Bz x.d i⟩:NV).c.toArray,.agg (⟨Ef y.d y.s b.2,BG y.d<|MJ x.d i⟩:NV).c.toArray,.bool true]) Tr (λb=>[C5 b.1 (Bz x.d i).msgs,Ke y.d b.2<|MJ x.d i]):=by
 have h:=Xai x y i hi q n a m o f z l<|g.mono A2;simp only[j,qX,r5,r9] at h;exact h
def LO (x y:NV) (i:Nat) (hi:i<=x.d.piv.length) (n:Bt Ms.key x.d.msgs) (l:Bt Ms.key<|MJ x.d i) (a:IC y.d<|MJ x.d i) (k:MJ x.d i≠[]) (m:x.d.Sm 1000) (e:y.d.Sm 1000) (z:x.d.leaf=false) (j:i<x.d.kids.length) (f:(BG y.d<|MJ x.d i).Sm 1000) (g:BJ (BG y.d<|MJ x.d i)=false):Df prog 202 [.agg x.c.toArray,.agg y.c.toArray,aa (i:Int)] (λw=>OE w x/\OE w y) [] (λb:Sv×Sv=>.tuple #[.agg x.c.toArray,.agg y.c.toArray,.bool false]) Tr (λb=>[C5 b.1 (Bz x.d i).msgs,Ke y.d b.2<|MJ x.d i]):=by
 have h:=Xai x y i hi n l a k m e z j<|f.mono A2;simp only[g,qX,r5,r9] at h;exact h
def aE {h:NV} {s:Sv} {l:cp} (lf:Bool) (g:h.d.leaf=lf) (x:(Ke h.d s l).at w) {a b c:Nr} (j:a=if lf=true then CT h.s.k h.d.kids else Ct h.s.e h.d.es) (n:b=if lf=true then CU h.s.p h.d.piv else CT h.s.k h.d.kids) (i:c=if lf=true then C5 h.s.m h.d.msgs else CU h.s.p h.d.piv) (z:a.at w) (y:b.at w) (f:c.at w):OE w ⟨Ef h.d h.s s,BG h.d l⟩:=by
 subst j n i;unfold Ke at x;unfold Ef BG;cases lf with
 |true=>rw[g] at x ⊢;simp only[qX] at x z y f ⊢;exact⟨BA x,BA z,BA y,BA f⟩
 |false=>rw[g] at x ⊢;simp only[r5,r9] at x z y f ⊢;exact⟨BA z,BA y,BA f,BA x⟩
def mR (h:x.Ok B) {t:Int} (U:OJ t) (A:Nat) (r:Rm) (z f:NV) (i:Nat) (hp:Xc8 x.hm t r z.d f.d i):Df prog 139 [BM A,BM x.bh,.agg z.c.toArray,.agg f.c.toArray] Tr (Ct z.s.e z.d.es::CT z.s.k z.d.kids::CU z.s.p z.d.piv::C5 z.s.m z.d.msgs::Ct f.s.e f.d.es::CT f.s.k f.d.kids::CU f.s.p f.d.piv::C5 f.s.m f.d.msgs::O5 A t r::x.H) (λy:HQ=>.tuple #[]) (λy=>y.bh=x.bh/\y.Ok B/\y.hm=(IF x.hm t r z.d f.d i).1) (λy=>O5 A t (IF x.hm t r z.d f.d i).2::y.H):=by
 intro w hE hH;obtain⟨Y,ql,qn,V,Q,qi,qk,qr,qd,S,qo,N,T,E,x1,h9⟩:=hp;have x2:=N.k;refine Ey func139 I hH<|Cs I<|LW I<|AT I I I I<|λbp=>Ce z.c I<|LW I<|AT I I I I<|λbc=>Ce f.c I<|Ns<|Ad ?_
 rcases hl:f.d.leaf with _|_
 .by_cases W:f.d.kids.length=4
  .have hm:IF x.hm t r z.d f.d i=(x.hm,{r with a:=8}):=by unfold IF;rw[pN ⟨hl,W⟩]
   refine Cr I<|EJ Bj I Z4 I<|Lo G4 0 I<|Mv 2 I<|Sb 14 true I (by rw[hl];rfl)<|EJ Bj I OQ I<|Lo Pq 0 I<|Lq I (AM I KI I<|SN 7 I)<|Mv 2 I<|Nk<|Sb 19 true I (by first|(rw[hl];done)|exact sT A1|(rw[W];rfl))<|Am I<|Cs I<|Mv 2 I<|EJ Bu I Z3 I<|DF<|LW I<|AB I I Z3 I I I (rO I)<|Ce (Rn t ({r with a:=8}:Rm)) I<|Nk<|Al ?_;refine Ag<|AD<|m<|AD<|m<|AD<|m<|AD<|m<|AD<|m<|AD<|m<|AD<|m<|AD<|m<|AD<|m<|AD<|m<|Pm [4,4,4] I ?_;exact Pm [3,3,3,3] I ZDe
  refine Cr I (EJ Bj I Z4 I<|Lo G4 0 I<|Mv 2 I<|Sb 14 true I (by rw[hl];rfl)<|EJ Bj I OQ I<|Lo Pq 0 I<|Lq I (AM I KI I<|SN 7 I)<|Mv 2 I<|Nk<|Sb 19 false I (by first|rfl|(rw[hl];rfl)|exact sS A1)<|Ab I<|Ah<|Ks<|DP (λo=>(Ac bp 135 z.c).at o/\(Ac bc 135 f.c).at o/\(O5 A t r).at o) I St.drawn<|Aq 0 I (Hc 1 0 10 I) (AH z.c I AV AK I (λ_ h=>h.1) (I)<|I)<|Aq 1 I (Hc 1 0 10 I) (AH f.c I AV AK I (λ_ h=>h.2.1) (I)<|I)<|Aq 2 I (Hc 1 0 10 I) Zd<|Aq 3 I (Hc 1 0 10 I) (Aj I Pq I (λ_ h=>h.1) I)<|Aq 4 I (Hc 1 0 10 I) uf<|Aq 5 I (Hc 1 0 10 I) zQ<|Aq 6 I (Hc 1 0 10 I) Zj ?_);refine Aq 7 I (Hc 1 0 10 I) (Aj I G3 I Va I) ?_;rcases hft:BJ (BG f.d<|MJ z.d i) with _|_
  .refine Ou (Λ:=Lt) (Bg BO) 3 [⟨8,32,[],λl=>aa (i:Int),λ_=>[],λl=>True⟩,⟨9,33,[8],λl=>.tuple #[.agg z.c.toArray,.agg f.c.toArray,.bool false],λl=>[C5 (ls l 0 0) (Bz z.d i).msgs,Ke f.d (ls l 0 1)<|MJ z.d i],λl=>True⟩,⟨14,8,[],λl=>.pointer<|some ⟨(lb l 0),0,none⟩,λl=>[Ac (lb l 0) 135 NZ.c],λl=>True⟩,⟨15,9,[],λl=>.pointer<|some ⟨(lb l 0),0,none⟩,λl=>[Ac (lb l 0) 135 NZ.c],λl=>True⟩] [⟨10,23,[8,9],λl=>.tuple #[.agg z.c.toArray,.agg f.c.toArray,.bool false],λ_=>[],λl=>True⟩,⟨11,34,[8,9,10],λl=>.agg z.c.toArray,λ_=>[],λl=>True⟩,⟨12,35,[8,9,10],λl=>.agg f.c.toArray,λ_=>[],λl=>True⟩,⟨13,36,[8,9,10],λl=>.bool false,λ_=>[],λl=>True⟩] A6 (λF o G=>xf) ?_ ?_ ?_
   .exact XdB
   .exact A5
   intro σ g;refine AQ<|Ay 16 I<|SW AK I Nc<|Ai Vd<|BP<|Ay 17 I<|SW AK I Nc<|Ai Vd<|Aq 18 I Vd uW<|An<|Kt<|Af<|Cs I<|Lm I<|Ak I<|Ab I<|Cs I<|EJ Bj I Z4 I<|Lo G4 4 I<|Ak I<|Sb 86 false I (hl)<|Ab I<|Cs I<|Mv 2 I ?_;have hm:IF x.hm t r z.d f.d i=((D3 x.hm t r).1,{(D3 x.hm t r).2 with up:=(D3 x.hm t r).2.lo,has:=true,pin:=false,a:=1}):=by unfold IF;rw[pQ<|λe=>W e.2,pQ (by rw[hft];decide),pQ jH]
   refine LW I<|Ee [_,_,_,_,_,_,_,_,_,_,_,_,_,_] (XcH h U A r<|λ_=>Y.has) I call206 Tt ?_;rintro y ⟨j,hk,Z⟩;refine Pre.world (St _ _<|_ ::_ ::_ ::_ ::_ ::_ ::_ ::_ ::_ ::_ ::_ ::_ ::_ ::_::O5 A t (D3 x.hm t r).2::HQ.H y) Ih ?_;refine Nk<|Cr I<|Mv 6 I<|EJ Bu I Z3 I<|Lo G3 14 I<|Lc I<|EJ Bu I Z3 I<|Xcd<|LW I<|AB I I Z3 I I I (rO I)<|Ce (Rn t ({(D3 x.hm t r).2 with up:=(D3 x.hm t r).2.lo}:Rm)) I<|Lc I<|EJ Bu I Z4 I<|LW I<|AB I I Z4 I I I (rO I)<|Ce (Rn t ({(D3 x.hm t r).2 with up:=(D3 x.hm t r).2.lo,has:=true}:Rm)) I<|Lc I<|EJ Bu I Z4 I<|LW I ?_;refine AB I I Z4 I I I (rO I)<|Ce (Rn t ({(D3 x.hm t r).2 with up:=(D3 x.hm t r).2.lo,has:=true,pin:=false}:Rm)) I<|Lc I<|EJ Bu I Z3 I<|LW I<|AB I I Z3 I I I (rO I)<|Ce (Rn t ({(D3 x.hm t r).2 with up:=(D3 x.hm t r).2.lo,has:=true,pin:=false,a:=1}:Rm)) I<|AE<|Au<|AW<|AD<|m<|AD<|m<|AD<|m<|AD<|m<|AD<|m<|Xo ?_;exact AD<|m<|AD<|m<|AD<|m<|AD<|m<|AD<|m<|AD<|m<|AD<|m<|Bl I<|λ_ O=>⟨y,rfl,⟨j,hk,by rw[hm];exact Z⟩,by rw[hm];exact O⟩
  refine Ou (Λ:=Lt) (Bg BO) 3 [⟨8,32,[],λl=>aa (i:Int),λ_=>[],λl=>True⟩,⟨9,33,[8],λl=>.tuple #[.agg (⟨⟨z.s.e,z.s.k,z.s.p,(ls l 0 0)⟩,Bz z.d i⟩:NV).c.toArray,.agg (⟨Ef f.d f.s<|ls l 0 1,BG f.d<|MJ z.d i⟩:NV).c.toArray,.bool true],λl=>[C5 (ls l 0 0) (Bz z.d i).msgs,Ke f.d (ls l 0 1)<|MJ z.d i],λl=>True⟩,⟨14,8,[],λl=>.pointer<|some ⟨(lb l 0),0,none⟩,λl=>[Ac (lb l 0) 135 NZ.c],λl=>True⟩,⟨15,9,[],λl=>.pointer<|some ⟨(lb l 0),0,none⟩,λl=>[Ac (lb l 0) 135 NZ.c],λl=>True⟩] [⟨10,23,[8,9],λl=>.tuple #[.agg (⟨⟨z.s.e,z.s.k,z.s.p,(ls l 2 0)⟩,Bz z.d i⟩:NV).c.toArray,.agg (⟨Ef f.d f.s<|ls l 2 1,BG f.d<|MJ z.d i⟩:NV).c.toArray,.bool true],λ_=>[],λl=>True⟩,⟨11,34,[8,9,10],λl=>.agg (⟨⟨z.s.e,z.s.k,z.s.p,(ls l 2 0)⟩,Bz z.d i⟩:NV).c.toArray,λ_=>[],λl=>True⟩,⟨12,35,[8,9,10],λl=>.agg (⟨Ef f.d f.s<|ls l 2 1,BG f.d<|MJ z.d i⟩:NV).c.toArray,λ_=>[],λl=>True⟩,⟨13,36,[8,9,10],λl=>.bool true,λ_=>[],λl=>True⟩] A6 (λF o G=>xf) ?_ ?_ ?_
  .exact XdC
  .exact A5
  intro σ g;refine AQ<|Ay 16 I<|SW AK I Nc<|Ai Vd<|BP<|Ay 17 I<|SW AK I Nc<|Ai Vd<|Aq 18 I Vd uW<|An<|Kt<|Af<|Cs I<|Lm I<|Ak I<|Am I<|Ad<|LZ (rg 11) 118098 _ I St.drawn Ih<|Md 3 I<|Ht Bu I Z3 I<|Dq I (Aj I G3 I (Ob 14 I) I)<|Md 2 I<|Ht Bu I Z3 I<|Dq I (Aj I G3 I (Ob 14 I) I)<|Dq I (Cq ((⟨⟨z.s.e,z.s.k,z.s.p,((σ 9).2.2.getD 0 sv0)⟩,Bz z.d i⟩:NV).c) AV AK 1 I (I)<|I) ?_;have hm:IF x.hm t r z.d f.d i=DU (Eu ((x.hm.N7 r.up<|Bz z.d i).N7 r.lo<|BG f.d<|MJ z.d i) t r).1 t (Eu x.hm t r).2 0:=by unfold IF;rw[pQ<|λe=>W e.2,pN hft]
  refine p 15 [0,1,3,4,5,9,10,11,12,13,14,6,7,8,2] I<|KC I<|Ee [_,_,_,_,_,_,_,_,_,_,_] (Xu h U (x.hm.SV Y.1) (nv:=(⟨⟨z.s.e,z.s.k,z.s.p,((σ 9).2.2.getD 0 sv0)⟩,Bz z.d i⟩:NV)) Y.2 x1 h9) I call204 Tt ?_;rintro z1 ⟨D,h6,C⟩;refine ZKZ ?_;refine AN<|Ks<|LH 1 (BM z1.bh) I (by rw[D])<|LZ (rg 11) 118098 _ I St.drawn Ih<|Md 3 I<|Ht Bu I Z3 I<|Dq I vj<|Md 2 I<|Ht Bu I Z3 I<|Dq I vj<|Dq I ZBL<|p 21 [2,6,7,8,15,16,17,18,19,20,0,1,3,4,5,9,10,11,12,13,14] I<|ZBP ?_;rintro P ⟨n,h5,v⟩;refine Pre.world (St _ _<|_::_::_::_::_::_::_::_::_::_::_::_::_::_::_::HQ.H P) Ih ?_;refine AN<|Ks ?_;rw[C] at v;rw[D] at n;refine LH 1 (BM P.bh) I (by rw[D,n])<|Cr I<|Mv 2 I ?_;have w1:=(ql.N7 r.up<|Bz z.d i).N7 r.lo<|BG f.d<|MJ z.d i;have o:=(Y.N7 r.up<|Bz z.d i).N7 r.lo<|BG f.d<|MJ z.d i;rw[<-v] at w1 o;refine p 15 [0,1,2,3,4,5,6,7,8,9,11,12,13,14,10] I<|LW I<|Ee [_,_,_,_,_,_,_,_,_,_,_,_,_,_] (Nu h5 U A r w1.has) I call205 Tt ?_;rintro y ⟨j,hk,Z⟩;refine Pre.world (St _ _<|_ ::_ ::_ ::_ ::_ ::_ ::_ ::_ ::_ ::_ ::_ ::_ ::_ ::_::O5 A t ({r with pin:=false}:Rm)::HQ.H y) Ih ?_;refine Nk ?_;have w3:=o.leave (u:=t) w1.1 qn;rw[<-show y.hm=P.hm.leave (P.hm.fi r.lo) t r.lo from Z] at w3;rw[n] at j;refine LH 1 (BM y.bh) I (by rw[n,j])<|Cr I<|Mv 2 I<|LW I<|Ee [_,_,_,_,_,_,_,_,_,_,_,_,_,_] (Nv hk U A ({r with pin:=false}:Rm) 0<|λ_=>w3.has) I call201 Tt ?_;rintro q ⟨h8,h7,L⟩;refine Pre.world (St _ _<|_ ::_ ::_ ::_ ::_ ::_ ::_ ::_ ::_ ::_ ::_ ::_ ::_ ::_::O5 A t (DU y.hm t {r with pin:=false} 0).2::HQ.H q) Ih ?_;refine AE<|Au<|AW ?_;have J:y.hm=(Eu ((x.hm.N7 r.up<|Bz z.d i).N7 r.lo<|BG f.d<|MJ z.d i) t r).1:=by rw[Z,v]
  rw[J] at L;exact m<|m<|m<|m<|m<|m<|m<|m<|m<|m<|m<|m<|m<|m<|Bl I<|λ_ O=>⟨q,rfl,⟨by rw[h8,j],h7,by rw[hm];exact L⟩,by rw[hm];rw[J] at O;exact O⟩
 refine Cr I (EJ Bj I Z4 I<|Lo G4 0 I<|Mv 2 I<|Sb 14 false I (by rw[hl];rfl)<|Mv 5 I<|Nk<|Ab I<|Ah<|Ks<|DP (λo=>(Ac bp 135 z.c).at o/\(Ac bc 135 f.c).at o/\(O5 A t r).at o) I St.drawn<|Aq 0 I (Hc 1 0 10 I) (AH z.c I AV AK I (λ_ h=>h.1) (I)<|I)<|Aq 1 I (Hc 1 0 10 I) (AH f.c I AV AK I (λ_ h=>h.2.1) (I)<|I)<|Aq 2 I (Hc 1 0 10 I) Zd<|Aq 3 I (Hc 1 0 10 I) (Aj I Pq I (λ_ h=>h.1) I)<|Aq 4 I (Hc 1 0 10 I) uf<|Aq 5 I (Hc 1 0 10 I) zQ<|Aq 6 I (Hc 1 0 10 I) Zj<|Aq 7 I (Hc 1 0 10 I) (Aj I G3 I Va I) ?_);rcases hft:BJ (BG f.d<|MJ z.d i) with _|_
 .refine Ou (Λ:=Lt) (Bg BO) 3 [⟨8,32,[],λl=>aa (i:Int),λ_=>[],λl=>True⟩,⟨9,33,[8],λl=>.tuple #[.agg z.c.toArray,.agg f.c.toArray,.bool false],λl=>[C5 (ls l 0 0) (Bz z.d i).msgs,Ke f.d (ls l 0 1)<|MJ z.d i],λl=>True⟩,⟨14,8,[],λl=>.pointer<|some ⟨(lb l 0),0,none⟩,λl=>[Ac (lb l 0) 135 NZ.c],λl=>True⟩,⟨15,9,[],λl=>.pointer<|some ⟨(lb l 0),0,none⟩,λl=>[Ac (lb l 0) 135 NZ.c],λl=>True⟩] [⟨10,23,[8,9],λl=>.tuple #[.agg z.c.toArray,.agg f.c.toArray,.bool false],λ_=>[],λl=>True⟩,⟨11,34,[8,9,10],λl=>.agg z.c.toArray,λ_=>[],λl=>True⟩,⟨12,35,[8,9,10],λl=>.agg f.c.toArray,λ_=>[],λl=>True⟩,⟨13,36,[8,9,10],λl=>.bool false,λ_=>[],λl=>True⟩] A6 (λF o G=>xf) ?_ ?_ ?_
  .exact XdB
  .exact A5
  intro σ g;refine AQ<|Ay 16 I<|SW AK I Nc<|Ai Vd<|BP<|Ay 17 I<|SW AK I Nc<|Ai Vd<|Aq 18 I Vd uW<|An<|Kt<|Af<|Cs I<|Lm I<|Ak I<|Ab I<|Cs I<|EJ Bj I Z4 I<|Lo G4 4 I<|Ak I<|Sb 86 true I (hl)<|Am I<|Cr I<|Mv 2 I<|EJ Bu I Z3 I ?_;have hm:IF x.hm t r z.d f.d i=(x.hm,{r with a:=8}):=by unfold IF;rw[pQ (by rw[hl];rintro⟨e,_⟩;cases e),pQ (by rw[hft];decide),pN hl]
  refine Xcd<|LW I<|AB I I Z3 I I I (rO I)<|Ce (Rn t ({r with a:=8}:Rm)) I<|AE<|Au<|AW<|AD<|m<|AD<|m<|AD<|m<|AD<|m<|AD<|m<|AD<|m<|AD<|m<|AD<|m<|AD ?_;exact m<|AD<|m<|AD<|m<|AD<|m<|AD<|m<|AD<|m ZDe
 refine Ou (Λ:=Lt) (Bg BO) 3 [⟨8,32,[],λl=>aa (i:Int),λ_=>[],λl=>True⟩,⟨9,33,[8],λl=>.tuple #[.agg (⟨⟨z.s.e,z.s.k,z.s.p,(ls l 0 0)⟩,Bz z.d i⟩:NV).c.toArray,.agg (⟨Ef f.d f.s<|ls l 0 1,BG f.d<|MJ z.d i⟩:NV).c.toArray,.bool true],λl=>[C5 (ls l 0 0) (Bz z.d i).msgs,Ke f.d (ls l 0 1)<|MJ z.d i],λl=>True⟩,⟨14,8,[],λl=>.pointer<|some ⟨(lb l 0),0,none⟩,λl=>[Ac (lb l 0) 135 NZ.c],λl=>True⟩,⟨15,9,[],λl=>.pointer<|some ⟨(lb l 0),0,none⟩,λl=>[Ac (lb l 0) 135 NZ.c],λl=>True⟩] [⟨10,23,[8,9],λl=>.tuple #[.agg (⟨⟨z.s.e,z.s.k,z.s.p,(ls l 2 0)⟩,Bz z.d i⟩:NV).c.toArray,.agg (⟨Ef f.d f.s<|ls l 2 1,BG f.d<|MJ z.d i⟩:NV).c.toArray,.bool true],λ_=>[],λl=>True⟩,⟨11,34,[8,9,10],λl=>.agg (⟨⟨z.s.e,z.s.k,z.s.p,(ls l 2 0)⟩,Bz z.d i⟩:NV).c.toArray,λ_=>[],λl=>True⟩,⟨12,35,[8,9,10],λl=>.agg (⟨Ef f.d f.s<|ls l 2 1,BG f.d<|MJ z.d i⟩:NV).c.toArray,λ_=>[],λl=>True⟩,⟨13,36,[8,9,10],λl=>.bool true,λ_=>[],λl=>True⟩] A6 (λF o G=>xf) ?_ ?_ ?_
 .exact XdC
 .exact A5
 intro σ g;refine AQ<|Ay 16 I<|SW AK I Nc<|Ai Vd<|BP<|Ay 17 I<|SW AK I Nc<|Ai Vd<|Aq 18 I Vd uW<|An<|Kt<|Af<|Cs I<|Lm I<|Ak I<|Am I<|Ad<|LZ (rg 11) 118098 _ I St.drawn Ih<|Md 3 I<|Ht Bu I Z3 I<|Dq I (Aj I G3 I (Ob 14 I) I)<|Md 2 I<|Ht Bu I Z3 I<|Dq I (Aj I G3 I (Ob 14 I) I)<|Dq I (Cq ((⟨⟨z.s.e,z.s.k,z.s.p,((σ 9).2.2.getD 0 sv0)⟩,Bz z.d i⟩:NV).c) AV AK 1 I (I)<|I) ?_;have hm:IF x.hm t r z.d f.d i=DU (Eu ((x.hm.N7 r.up<|Bz z.d i).N7 r.lo<|BG f.d<|MJ z.d i) t r).1 t (Eu x.hm t r).2 0:=by unfold IF;rw[pQ (by rw[hl];rintro⟨e,_⟩;cases e),pN hft]
 refine p 15 [0,1,3,4,5,9,10,11,12,13,14,6,7,8,2] I<|KC I<|Ee [_,_,_,_,_,_,_,_,_,_,_] (Xu h U (x.hm.SV Y.1) (nv:=(⟨⟨z.s.e,z.s.k,z.s.p,((σ 9).2.2.getD 0 sv0)⟩,Bz z.d i⟩:NV)) Y.2 x1 h9) I call204 Tt ?_;rintro z1 ⟨D,h6,C⟩;refine ZKZ ?_;refine AN<|Ks<|LH 1 (BM z1.bh) I (by rw[D])<|LZ (rg 11) 118098 _ I St.drawn Ih<|Md 3 I<|Ht Bu I Z3 I<|Dq I vj<|Md 2 I<|Ht Bu I Z3 I<|Dq I vj<|Dq I ZBL<|p 21 [2,7,8,9,15,16,17,18,19,20,0,1,3,4,5,6,10,11,12,13,14] I<|ZBP ?_;rintro P ⟨n,h5,v⟩;refine Pre.world (St _ _<|_::_::_::_::_::_::_::_::_::_::_::_::_::_::_::HQ.H P) Ih ?_;refine AN<|Ks ?_;rw[C] at v;rw[D] at n;refine LH 1 (BM P.bh) I (by rw[D,n])<|Cr I<|Mv 2 I ?_;have w1:=(ql.N7 r.up<|Bz z.d i).N7 r.lo<|BG f.d<|MJ z.d i;have o:=(Y.N7 r.up<|Bz z.d i).N7 r.lo<|BG f.d<|MJ z.d i;rw[<-v] at w1 o;refine p 15 [0,1,2,3,4,5,6,7,8,9,11,12,13,14,10] I<|LW I<|Ee [_,_,_,_,_,_,_,_,_,_,_,_,_,_] (Nu h5 U A r w1.has) I call205 Tt ?_;rintro y ⟨j,hk,Z⟩;refine Pre.world (St _ _<|_ ::_ ::_ ::_ ::_ ::_ ::_ ::_ ::_ ::_ ::_ ::_ ::_ ::_::O5 A t ({r with pin:=false}:Rm)::HQ.H y) Ih ?_;refine Nk ?_;have w3:=o.leave (u:=t) w1.1 qn;rw[<-show y.hm=P.hm.leave (P.hm.fi r.lo) t r.lo from Z] at w3;rw[n] at j;refine LH 1 (BM y.bh) I (by rw[n,j])<|Cr I<|Mv 2 I<|LW I<|Ee [_,_,_,_,_,_,_,_,_,_,_,_,_,_] (Nv hk U A ({r with pin:=false}:Rm) 0<|λ_=>w3.has) I call201 Tt ?_;rintro q ⟨h8,h7,L⟩;refine Pre.world (St _ _<|_ ::_ ::_ ::_ ::_ ::_ ::_ ::_ ::_ ::_ ::_ ::_ ::_ ::_::O5 A t (DU y.hm t {r with pin:=false} 0).2::HQ.H q) Ih ?_;refine AE<|Au<|AW ?_;have J:y.hm=(Eu ((x.hm.N7 r.up<|Bz z.d i).N7 r.lo<|BG f.d<|MJ z.d i) t r).1:=by rw[Z,v]
 rw[J] at L;exact m<|m<|m<|m<|m<|m<|m<|m<|m<|m<|m<|m<|m<|m<|Bl I<|λ_ O=>⟨q,rfl,⟨by rw[h8,j],h7,by rw[hm];exact L⟩,by rw[hm];rw[J] at O;exact O⟩
def Hg {p:α->Bool} {l:List α} (h:B8 p l=some i):∃x,l[i]?=some x/\p x=true:=by
 obtain⟨x,y,z⟩:=Dd h;exact⟨x,y,z.1⟩
def Xe1 {k:Nat} (h:k<M.fr.length) (a:Oq c (M.at' k)=false) (g:Oq c y=false) (s:Int):(M.put k y).Me c s=M.Me c s:=by
 have f:(M.put k y).find c=M.find c:=by
  show B8 (Oq c) (M.fr.set k y)=B8 (Oq c) M.fr
  rw[F0,F0 (Oq c) M.fr,XbF (Oq c) (Mc h)<|by rw[a,g]]
 unfold Mo.Me;rw[f];cases hx:M.find c with
 |none=>rfl
 |some i =>
  have z:i≠k:=λe=>by
   subst e;obtain⟨x,d,b⟩:=Hg<|show B8 (Oq c) M.fr=some i from hx
   have:=Mc h;rw[d] at this;cases this
   rw[a] at b;cases b
  dsimp only;rw[az h,pQ z]
def QB {f:Vw} (h:f.st=3\/f.st=0):Oq c f=false:=by
 unfold Oq;rcases h with h|h<;>rw[h]<;>simp
namespace Hm
variable {L:Hm}
def Xba (d:c≠b) (s:Int):(L.name t b nd).M.Me c s=L.M.Me c s:=by
 unfold Hm.name Mo.name;cases h1:(Ry b&&(L.M.find b).isNone) with
 |false=>rfl
 |true =>
  cases h2:B8 (isC t) L.M.fr with
  |none=>rfl
  |some k =>
   obtain⟨x,a,y⟩:=Hg h2;have z:k<L.M.fr.length:=(qp.1 a).1;have h:L.M.at' k=x:=by have:=Mc z;rw[a] at this;cases this;rfl
   unfold isC at y;simp only[qW,rA] at y;refine Xe1 z (QB<|.inl<|by rw[h];exact y.1) ?_ s;unfold Oq;rw[sS<|rQ d];rfl
def Rz.name (h:L.Rz t c) (x:c≠b):(L.name u b nd).Rz t c:=⟨by rw[Xba x];exact h.1,by unfold Hm.fi;rw[Xba x];exact h.2⟩
def Xbb (t c s:Int):(L.give t).M.Me c s=L.M.Me c s:=by
 have b:(L.M.give t).find c=L.M.find c:=by
  show B8 (Oq c) (L.M.fr.map<|λf=>if isC t f=true then Cy else f)=B8 (Oq c) L.M.fr
  rw[F0,F0 (Oq c) L.M.fr,rG];congr 1;refine List.map_congr_left<|λf _=>?_
  show Oq c (if isC t f=true then Cy else f)=Oq c f
  split
  .rename_i h;unfold isC at h;simp only[qW,rA] at h;rw[QB<|.inl h.1,QB VZ]
  rfl
 show (L.M.give t).Me c s=_
 unfold Mo.Me;rw[b];cases hx:L.M.find c with
 |none=>rfl
 |some i =>
  obtain⟨x,z,a⟩:=Hg<|show B8 (Oq c) L.M.fr=some i from hx
  have e1:L.M.at' i=x:=by unfold Mo.at';rw[sY,z];rfl
  have y:isC t x=false:=by
   cases y:isC t x with
   |false=>rfl
   |true =>
    unfold isC at y;simp only[qW,rA] at y;rw[QB<|.inl y.1] at a;cases a
  have d:(L.M.give t).at' i=x:=by
   show (L.M.fr.map _).getD i Cy=x
   rw[sY,qq,z];simp[y]
  dsimp only;rw[e1,d]
def Rz.give (h:L.Rz t c):(L.give u).Rz t c:=⟨by rw[Xbb];exact h.1,by unfold Hm.fi;rw[Xbb];exact h.2⟩
def Rz.ay (h:L.Rz t c) (s:OH):({L with s:=s}:Hm).Rz t c:=h
end Hm
def BC (p c:Nd) (i:Nat):ct:=BZ c.es<|MJ p i
abbrev d:=@BC
def C8 (p c:Nd) (i:Nat) (jd:Int):Nd×Nd×Nd :=
 if c.leaf=true then (BL (Bz p i) i (((BC p c i).getD (spl<|BC p c i) en0).key) jd,RX<|(BC p c i).take<|spl<|BC p c i,RX<|(BC p c i).drop<|spl<|BC p c i)
 else (BL p i (CN c) jd,hlA c,hlB c)
def Ow (L:Hm) (t:Int) (r:Rm) (p c:Nd) (i:Nat) (jd:Int):Hm:=((({L with s:=(L.s.al 1).2}:Hm).N7 r.up (C8 p c i jd).1).N7 r.lo (C8 p c i jd).2.1).name t jd (C8 p c i jd).2.2
def Nx (L:Hm) (t:Int) (r:Rm) (p c:Nd) (i jd:Nat):Hm×Rm :=
 if L.s.left<1 then DU (Eu (L.give t) t r).1 t (Eu L t r).2 3
 else DU (Eu (Ow L t r p c i jd) t r).1 t (Eu L t r).2 0
structure mS (L:Hm) (t:Int) (r:Rm) (p c:Nd) (i jd:Nat):Prop where
 up:L.Rz t r.up
 lo:L.Rz t r.lo
 ne:(r.up:Int)≠r.lo
 cl:1<=L.M.claims t
 al:1<=L.s.left->(∀j,j<1->∃k,(L.s.al j).2.fr=some k)/\(L.s.al 1).1=[jd]/\V7 jd=true/\(L.s.al 1).2.us[jd]?=some true/\SG p.kids (jd:Int)=none/\(r.up:Int)≠jd/\(r.lo:Int)≠jd
 pl:SG p.kids (r.lo:Int)=some i
 plf:p.leaf=false
 p4:p.kids.length<4
 ki:i<p.kids.length
 pk:p.piv.length+1=p.kids.length
 pr:Bt Ms.key p.msgs
 dr:Bt Ms.key (MJ p i)
 dn:MJ p i≠[]
 sp:p.Sm 1000
 sc:c.Sm 1000
 lf:c.leaf=true->J9 c.es (MJ p i)/\(∀e∈BC p c i,e.Bd)/\2<=(BC p c i).length/\0<lby (BC p c i)/\(BC p c i).length<=30000
 inn:c.leaf=false->c.kids.length=4/\c.piv.length=3/\Bt Ms.key c.msgs
 f1:1<=L.s.left->BJ (C8 p c i jd).1=true/\(C8 p c i jd).1.Sm 1000
 f2:1<=L.s.left->BJ (C8 p c i jd).2.1=true/\(C8 p c i jd).2.1.Sm 1000
 f3:1<=L.s.left->BJ (C8 p c i jd).2.2=true/\(C8 p c i jd).2.2.Sm 1000
def I6 {k p m:Sv} {a:bf} {b:List<|c3} {c:cp} {h:Nr} (x:e1=CT k a) (d:h=CU p b) (z:e1.at w) (y:h.at w) (hm:Ec w m.v Ms.enc c):OE w ⟨⟨sv0,k,p,m⟩,⟨false,[],a,b,c⟩⟩:=by
 subst x d;exact⟨EC _,BA z,BA y,hm⟩
def Xep {s:Sv} {es:ct} (x:e1=Ct s es) (h:e1.at w):OE w (OL s es):=by
 subst x;exact⟨BA h,EC _,EC _,EC _⟩
def Xkd (h:x.Ok B) {t:Int} (X:OJ t) (o:Nat) (r:Rm) (f g:NV) (i jd:Nat) (hp:mS x.hm t r f.d g.d i jd):Df prog 141 [BM o,BM x.bh,.agg f.c.toArray,.agg g.c.toArray] Tr (Ct f.s.e f.d.es::CT f.s.k f.d.kids::CU f.s.p f.d.piv::C5 f.s.m f.d.msgs::Ct g.s.e g.d.es::CT g.s.k g.d.kids::CU g.s.p g.d.piv::C5 g.s.m g.d.msgs::O5 o t r::x.H) (λy:HQ=>.tuple #[]) (λy=>y.bh=x.bh/\y.Ok B/\y.hm=(Nx x.hm t r f.d g.d i jd).1) (λy=>O5 o t (Nx x.hm t r f.d g.d i jd).2::y.H):=by
 intro w hE hH;obtain⟨qu,ql,qn,y8,z9,x7,y3,y1,qk,y9,qr,qd,z4,y7,y5,qL,qI,z7,a1,z8⟩:=hp;have a3:=y7.k;refine Ey func141 I hH<|Cs I<|LW I<|AT I I I I<|λbp=>Ce f.c I<|LW I<|AT I I I I<|λbc=>Ce g.c I<|Nk<|Cs I<|Mv 3 I<|EJ Bu I Z3 I<|Lo G3 10 I ?_
 by_cases hls:x.s.left<1
 .have hm:Nx x.hm t r f.d g.d i jd=DU (Eu (x.hm.give t) t r).1 t (Eu x.hm t r).2 3:=by unfold Nx;rw[pN<|show x.hm.s.left<1 from hls]
  refine LW I<|Ee [_,_,_,_,_,_,_,_,_,_,_] (Xan h X (n:=1) A2 A2 y8 hls) I call208 Tt ?_;rintro z ⟨O,z5,W⟩;refine Pre.world (St _ _<|_::_::_::_::_::_::_::_::_::_::_::HQ.H z) Ih ?_;refine Mv 4 I<|Ak I<|Ad<|Cs I<|Mv 2 I<|Nk<|Am I<|Ad<|LH 1 (BM z.bh) I (by rw[O]) ?_;have w1:=ql.give (u:=t);have j:=qu.give (u:=t);rw[<-W] at w1 j;refine Cr I<|Mv 2 I<|LW I<|Ee [_,_,_,_,_,_,_,_,_,_] (Nu z5 X o r w1.has) I call205 Tt ?_;rintro y ⟨E,hk,hy⟩;refine Pre.world (St _ _<|_ ::_ ::_ ::_ ::_ ::_ ::_ ::_ ::_ ::_::O5 o t ({r with pin:=false}:Rm)::HQ.H y) Ih ?_;refine Ns ?_;have w3:=j.leave (u:=t) w1.1 qn;rw[<-show y.hm=z.hm.leave (z.hm.fi r.lo) t r.lo from hy] at w3;have h6:y.bh=x.bh:=by rw[E,O]
  refine LH 1 (BM y.bh) I (by rw[E])<|Cr I<|Mv 2 I<|LW I<|Ee [_,_,_,_,_,_,_,_,_,_] (Nv hk X o ({r with pin:=false}:Rm) 3<|λ_=>w3.has) I call201 Tt ?_;rintro q ⟨Z,h3,C⟩;refine Pre.world (St _ _<|_ ::_ ::_ ::_ ::_ ::_ ::_ ::_ ::_ ::_::O5 o t (DU y.hm t {r with pin:=false} 3).2::HQ.H q) Ih ?_;refine Nk<|Al<|Ag ?_;have G:y.hm=(Eu (x.hm.give t) t r).1:=by rw[hy,W]
  rw[G] at C;exact m<|m<|m<|m<|m<|m<|m<|m<|m<|m xe
 obtain⟨qa,x3,y2,x9,y6,x6,y4⟩:=z9 iM;obtain⟨S,V⟩:=z7 iM;obtain⟨T,U⟩:=a1 iM;obtain⟨P,Q⟩:=z8 iM;have x3:(x.s.al 1).1=[jd]:=x3;have h4:Q7 (x.s.al 1).1=[(jd:Int)]:=by rw[x3];rfl
 have hm:Nx x.hm t r f.d g.d i jd=DU (Eu (Ow x.hm t r f.d g.d i jd) t r).1 t (Eu x.hm t r).2 0:=by unfold Nx;rw[pQ<|show ¬x.hm.s.left<1 from hls]
 refine LW I<|Ee [_,_,_,_,_,_,_,_,_,_,_] (Xak h X (n:=1) A2 A2 y8 A1 qa) I call208 Tt ?_;rintro⟨vl,y0⟩ ⟨M,x2,h7⟩;refine Pre.world (St _ _<|_::_::_::_::_::_::_::_::_::_::_::_::HQ.H y0) Ih ?_;refine Mv 4 I<|Ak I<|Ad<|Cs I<|Mv 2 I<|Nk<|Ab I<|Ah<|Ks ?_;dsimp only at M x2 h7;refine LH 1 (BM y0.bh) I (by rw[M]) ?_;have a2:(Q7 (x.s.al 1).1).length=1:=by rw[h4];rfl
 refine Pm [11] I ?_;have k1:=ql.ay (x.s.al 1).2;have k2:=qu.ay (x.s.al 1).2;rw[<-h7] at k1 k2;have h9:y0.s=(x.s.al 1).2:=congrArg Hm.s h7;rcases hl:g.d.leaf with _|_
 .have hN:C8 f.d g.d i jd=((BL f.d i (CN g.d) jd),(hlA g.d),(hlB g.d)):=by unfold C8;rw[pQ jH]
  rw[hN] at S V T U P Q;dsimp only at S V T U P Q;refine Cr I<|Ak I<|Ad<|Cs I<|EJ Bj I Z4 I<|Lo G4 1 I<|Nk<|Sb 33 false I (hl)<|Ab I<|Ah<|Ks<|Ad<|DP (λj=>(Ac bp 135 f.c).at j/\(Ac bc 135 g.c).at j/\(O5 o t r).at j/\Ec j vl ds (Q7 (x.s.al 1).1)) I St.drawn<|Aq 0 I (λ_ h=>Rx) uf<|Aq 1 I (λ_ h=>Rx) (AH f.c I AV AK I (λ_ h=>h.1) (I)<|I)<|Aq 2 I (λ_ h=>Rx) (AH g.c I AV AK I (λ_ h=>h.2.1) (I)<|I)<|Aq 3 I (λ_ h=>Rx) Zd<|Aq 4 I (λ_ h=>Rx) (Aj I Pq I (λ_ h=>h.1) I)<|Aq 5 I (λ_ h=>Rx) uf<|Aq 6 I (λ_ h=>Rx) zQ<|Aq 7 I (λ_ h=>Rx) Zj<|Aq 8 I (λ_ h=>Rx) (Aj I G3 I (λ_ h=>h.2.2.1) I)<|Aq 10 I (λ_ h=>Rx) uf<|Aq 11 I (λ_ h=>Rx) (Aw 0 I KI Z3 I (λ_ h=>h.2.2.2) I I) ?_;refine Aq 12 I (λ_ h=>Rx) ZDl ?_;refine Ou (Λ:=Lt) (Bg<|Bg BO) 4 [⟨9,44,[],λl=>aa (i:Int),λ_=>[],λl=>True⟩,⟨13,48,[9],λl=>.tuple #[.agg (⟨⟨f.s.e,(ls l 0 0),(ls l 0 1),f.s.m⟩,(BL f.d i (CN g.d) jd)⟩:NV).c.toArray,.agg (⟨⟨sv0,(ls l 0 2),(ls l 0 3),(ls l 0 4)⟩,hlA g.d⟩:NV).c.toArray,.agg (⟨⟨sv0,(ls l 0 5),(ls l 0 6),(ls l 0 7)⟩,hlB g.d⟩:NV).c.toArray,.bool true],λl=>[CT (ls l 0 0) (BL f.d i (CN g.d) jd).kids,CU (ls l 0 1) (BL f.d i (CN g.d) jd).piv,CT (ls l 0 2)<|g.d.kids.take 2,CU (ls l 0 3)<|g.d.piv.take 1,CT (ls l 0 5)<|g.d.kids.drop 2,CU (ls l 0 6)<|g.d.piv.drop 2],λl=>GA g.s.m.v g.d.msgs (hlA g.d).msgs (ls l 0 4).v/\GA g.s.m.v g.d.msgs (hlB g.d).msgs (ls l 0 7).v⟩,⟨19,11,[],λl=>.pointer<|some ⟨(lb l 0),0,none⟩,λl=>[Ac (lb l 0) 135 NZ.c],λl=>True⟩,⟨20,12,[],λl=>.pointer<|some ⟨(lb l 0),0,none⟩,λl=>[Ac (lb l 0) 135 NZ.c],λl=>True⟩,⟨21,13,[],λl=>.pointer<|some ⟨(lb l 0),0,none⟩,λl=>[Ac (lb l 0) 135 NZ.c],λl=>True⟩] [⟨14,34,[9,13],λl=>.tuple #[.agg (⟨⟨f.s.e,(ls l 2 0),(ls l 2 1),f.s.m⟩,(BL f.d i (CN g.d) jd)⟩:NV).c.toArray,.agg (⟨⟨sv0,(ls l 2 2),(ls l 2 3),(ls l 2 4)⟩,hlA g.d⟩:NV).c.toArray,.agg (⟨⟨sv0,(ls l 2 5),(ls l 2 6),(ls l 2 7)⟩,hlB g.d⟩:NV).c.toArray,.bool true],λ_=>[],λl=>True⟩,⟨15,49,[9,13,14],λl=>.agg (⟨⟨f.s.e,(ls l 2 0),(ls l 2 1),f.s.m⟩,(BL f.d i (CN g.d) jd)⟩:NV).c.toArray,λ_=>[],λl=>True⟩,⟨16,50,[9,13,14],λl=>.agg (⟨⟨sv0,(ls l 2 2),(ls l 2 3),(ls l 2 4)⟩,hlA g.d⟩:NV).c.toArray,λ_=>[],λl=>True⟩,⟨17,51,[9,13,14],λl=>.agg (⟨⟨sv0,(ls l 2 5),(ls l 2 6),(ls l 2 7)⟩,hlB g.d⟩:NV).c.toArray,λ_=>[],λl=>True⟩,⟨18,52,[9,13,14],λl=>.bool true,λ_=>[],λl=>True⟩] A6 (λF j h2=>by have h:=h2.perm sV;exact Rx) ?_ ?_ ?_
  .refine List.forall_mem_cons.2 ⟨?_,?_⟩
   .exact XdR
   refine List.forall_mem_cons.2 ⟨?_,?_⟩
   .refine⟨_,rfl,rfl,λσ R F K A h=>?_⟩;refine Cf (XeN f g i jd y3 y1 qk y9 y2 y6 hl (qI hl).1 (qI hl).2.1 (qI hl).2.2 y5) I I I I call209 I ZDb ?_;rintro⟨⟨g1,g2,g3,g4,g5,g6⟩,sa,sb⟩ z6;exact h (.bool false,0,[sa,sb,g1,g2,g3,g4,g5,g6]) z6
   exact XdE
  .exact ez
  intro σ A
  have x8:GA g.s.m.v g.d.msgs (hlA g.d).msgs ((σ 13).2.2.getD 4 sv0).v/\GA g.s.m.v g.d.msgs (hlB g.d).msgs ((σ 13).2.2.getD 7 sv0).v:=by
   have h2:=A _<|sr _<|rW ..;exact h2
  refine C3<|Ay 22 I<|SW AK I Nc<|Ai xx<|FL<|Ay 23 I<|SW AK I Nc<|Ai xx<|YP<|Ay 24 I<|SW AK I Nc<|Ai xx<|Aq 25 I xx uW<|An<|Kt<|Cs I<|Lm I<|Nk<|Am I<|Ad<|LZ (rg 11) 118098 (λj=>(Ac (σ 19).2.1 135 (⟨⟨f.s.e,((σ 13).2.2.getD 0 sv0),((σ 13).2.2.getD 1 sv0),f.s.m⟩,(BL f.d i (CN g.d) jd)⟩:NV).c).at j/\(Ac (σ 20).2.1 135 (⟨⟨sv0,((σ 13).2.2.getD 2 sv0),((σ 13).2.2.getD 3 sv0),((σ 13).2.2.getD 4 sv0)⟩,hlA g.d⟩:NV).c).at j/\(Ac (σ 21).2.1 135 (⟨⟨sv0,((σ 13).2.2.getD 5 sv0),((σ 13).2.2.getD 6 sv0),((σ 13).2.2.getD 7 sv0)⟩,hlB g.d⟩:NV).c).at j/\(O5 o t r).at j/\Ec j vl ds (Q7 (x.s.al 1).1)) I St.drawn (λ_ h=>⟨h.at 2 rfl,h.at 1 rfl,h.at 0 rfl,h.at 20 rfl,h.rd 9 rfl⟩) ?_;refine Md 3 I<|Ht Bu I Z3 I<|Dq I wL<|Md 2 I<|Ht Bu I Z3 I<|Dq I wL<|Dq I (AH ((⟨⟨f.s.e,((σ 13).2.2.getD 0 sv0),((σ 13).2.2.getD 1 sv0),f.s.m⟩,(BL f.d i (CN g.d) jd)⟩:NV).c) I AV AK I (λ_ h=>h.1) (I)<|I)<|p 27 [17,18,19,20,12,3,4,15,21,22,23,24,25,26,0,1,2,5,6,7,8,9,10,11,13,14,16] I<|p 27 [14,15,16,17,18,19,20,21,22,23,24,25,26,0,1,2,3,4,5,6,7,8,9,10,11,12,13] I<|KC I<|Ee [_,_,_,_,_,_,_,_,_,_,_,_,_,_,_,_,_] (Xu x2 X (y0.hm.SV k2.1) (nv:=(⟨⟨f.s.e,((σ 13).2.2.getD 0 sv0),((σ 13).2.2.getD 1 sv0),f.s.m⟩,(BL f.d i (CN g.d) jd)⟩:NV)) k2.2 S V) I call204 Tt ?_;rintro z1 ⟨Y,x5,L⟩;refine Pre.world (St _ _<|_::_::_::_::_::_::_::_::_::_::_::_::_::_::_::_::_::_::_::_::_::HQ.H z1) Ih ?_;refine AN<|Ks<|LH 1 (BM z1.bh) I (by rw[Y]) ?_;have k3:=k1.N7 r.up<|BL f.d i (CN g.d) jd;have k4:=k2.N7 r.up<|BL f.d i (CN g.d) jd;rw[<-L] at k3 k4;refine LZ (rg 11) 118098 (λj=>(Ac (σ 19).2.1 135 (⟨⟨f.s.e,((σ 13).2.2.getD 0 sv0),((σ 13).2.2.getD 1 sv0),f.s.m⟩,(BL f.d i (CN g.d) jd)⟩:NV).c).at j/\(Ac (σ 20).2.1 135 (⟨⟨sv0,((σ 13).2.2.getD 2 sv0),((σ 13).2.2.getD 3 sv0),((σ 13).2.2.getD 4 sv0)⟩,hlA g.d⟩:NV).c).at j/\(Ac (σ 21).2.1 135 (⟨⟨sv0,((σ 13).2.2.getD 5 sv0),((σ 13).2.2.getD 6 sv0),((σ 13).2.2.getD 7 sv0)⟩,hlB g.d⟩:NV).c).at j/\(O5 o t r).at j/\Ec j vl ds (Q7 (x.s.al 1).1)) I St.drawn (λ_ h=>⟨h.at 2 rfl,h.at 1 rfl,h.at 0 rfl,h.at 16 rfl,h.rd 7 rfl⟩)<|Md 3 I<|Ht Bu I Z3 I<|Dq I wL<|Md 2 I<|Ht Bu I Z3 I<|Dq I wL<|Dq I (AH ((⟨⟨sv0,((σ 13).2.2.getD 2 sv0),((σ 13).2.2.getD 3 sv0),((σ 13).2.2.getD 4 sv0)⟩,hlA g.d⟩:NV).c) I AV AK I (λ_ h=>h.2.1) (I)<|I)<|p 27 [19,20,16,3,4,15,17,21,22,23,24,25,26,0,1,2,5,6,7,8,9,10,11,12,13,14,18] I ?_;refine p 27 [13,14,15,16,17,18,19,20,21,22,23,24,25,26,0,1,2,3,4,5,6,7,8,9,10,11,12] I<|KC I<|Ee [_,_,_,_,_,_,_,_,_,_,_,_,_,_,_,_,_] (Nq x5 X (z1.hm.SV k3.1) (nv:=(⟨⟨sv0,((σ 13).2.2.getD 2 sv0),((σ 13).2.2.getD 3 sv0),((σ 13).2.2.getD 4 sv0)⟩,hlA g.d⟩:NV)) k3.2 T U<|λ_ a b c _=>I6 I I a b<|x8.1 _<|BA c) I call204 Tt ?_;rintro z2 ⟨h1,x1,J⟩;refine Pre.world (St _ _<|_::_::_::_::_::_::_::_::_::_::_::_::_::_::_::_::_::_::_::_::_::HQ.H z2) Ih ?_;refine AN<|Kt<|LH 1 (BM z2.bh) I (by rw[h1]) ?_;have k5:=k3.N7 r.lo<|hlA g.d;have k6:=k4.N7 r.lo<|hlA g.d;rw[<-J] at k5 k6;have h8:z2.s=(x.s.al 1).2:=ZFG;refine LZ (rg 10) 39366 (λj=>(Ac (σ 19).2.1 135 (⟨⟨f.s.e,((σ 13).2.2.getD 0 sv0),((σ 13).2.2.getD 1 sv0),f.s.m⟩,(BL f.d i (CN g.d) jd)⟩:NV).c).at j/\(Ac (σ 20).2.1 135 (⟨⟨sv0,((σ 13).2.2.getD 2 sv0),((σ 13).2.2.getD 3 sv0),((σ 13).2.2.getD 4 sv0)⟩,hlA g.d⟩:NV).c).at j/\(Ac (σ 21).2.1 135 (⟨⟨sv0,((σ 13).2.2.getD 5 sv0),((σ 13).2.2.getD 6 sv0),((σ 13).2.2.getD 7 sv0)⟩,hlB g.d⟩:NV).c).at j/\(O5 o t r).at j/\Ec j vl ds (Q7 (x.s.al 1).1)) I St.drawn (λ_ h=>⟨h.at 2 rfl,h.at 1 rfl,h.at 0 rfl,h.at 16 rfl,h.rd 5 rfl⟩)<|Md 3 I<|Ht Bu I Z3 I<|Dq I wL<|Dm I<|Dq I iw<|Dq I ZCK<|Dq I (AH ((⟨⟨sv0,((σ 13).2.2.getD 5 sv0),((σ 13).2.2.getD 6 sv0),((σ 13).2.2.getD 7 sv0)⟩,hlB g.d⟩:NV).c) I AV AK I (λ_ h=>h.2.2.1) (I)<|I)<|p 27 [15,17,18,16,3,4,19,20,21,22,23,24,25,26,0,1,2,5,6,7,8,9,10,11,12,13,14] I ?_;refine p 27 [14,15,16,17,18,19,20,21,22,23,24,25,26,0,1,2,3,4,5,6,7,8,9,10,11,12,13] I<|KC I<|Ee [_,_,_,_,_,_,_,_,_,_,_,_,_,_,_,_,_] (K2 x1 t (k:=jd) (by rw[h8];exact x9) (nv:=(⟨⟨sv0,((σ 13).2.2.getD 5 sv0),((σ 13).2.2.getD 6 sv0),((σ 13).2.2.getD 7 sv0)⟩,hlB g.d⟩:NV)) P Q<|λ_ a b c _=>I6 I I a b<|x8.2 _<|BA c) I call211 Tt ?_;rintro N ⟨h5,x4,D⟩;refine Pre.world (St _ _<|_::_::_::_::_::_::_::_::_::_::_::_::_::_::_::_::_::_::_::_::_::HQ.H N) Ih ?_;refine AN<|Ks<|LH 1 (BM N.bh) I (by rw[h5]) ?_;have k7:=k5.name (u:=t) (nd:=(hlB g.d)) y4;have k8:=k6.name (u:=t) (nd:=(hlB g.d)) x6;rw[<-D] at k7 k8;have O:N.bh=x.bh:=by rw[h5,h1,Y,M]
  have W:N.hm=Ow x.hm t r f.d g.d i jd:=by unfold Ow;rw[D,J,L,h7,hN]<;>rfl
  refine Cr I<|Mv 2 I<|p 27 [6,7,8,9,10,11,12,13,14,15,17,18,19,20,16,21,22,23,24,25,26,0,1,2,3,4,5] I<|Pm [21,21,21,21,21,21] I<|LW I<|Ee [_,_,_,_,_,_,_,_,_,_,_,_,_,_,_,_,_,_,_,_] (Nu x4 X o r k7.has) I call205 Tt ?_;rintro y ⟨E,hk,hy⟩;refine Pre.world (St _ _<|_ ::_ ::_ ::_ ::_ ::_ ::_ ::_ ::_ ::_ ::_ ::_ ::_ ::_ ::_ ::_ ::_ ::_ ::_ ::_::O5 o t ({r with pin:=false}:Rm)::HQ.H y) Ih ?_;refine Nk ?_;have w3:=k8.leave (u:=t) k7.1 qn;rw[<-show y.hm=N.hm.leave (N.hm.fi r.lo) t r.lo from hy] at w3;have h6:y.bh=x.bh:=by rw[E,O]
  refine LH 1 (BM y.bh) I (by rw[E])<|Cr I<|Mv 2 I<|LW I<|Ee [_,_,_,_,_,_,_,_,_,_,_,_,_,_,_,_,_,_,_,_] ZFx I call201 Tt ?_;rintro q ⟨Z,h3,C⟩;refine Pre.world (St _ _<|_ ::_ ::_ ::_ ::_ ::_ ::_ ::_ ::_ ::_ ::_ ::_ ::_ ::_ ::_ ::_ ::_ ::_ ::_ ::_::O5 o t (DU y.hm t {r with pin:=false} 0).2::HQ.H q) Ih ?_;refine AE<|AW ?_;have G:y.hm=(Eu (Ow x.hm t r f.d g.d i jd) t r).1:=by rw[hy,W]
  rw[G] at C;refine m<|m<|m<|m<|m<|m<|m<|m<|m<|m<|m<|m<|m<|m<|m<|m<|m<|m<|m<|m<|Pm [3,3,3,3] I ?_;exact Pm [4,4,4] I xe
 have hN:C8 f.d g.d i jd=((BL (Bz f.d i) i (((d f.d g.d i).getD (spl<|d f.d g.d i) en0).key) jd),(RX<|(d f.d g.d i).take<|spl<|d f.d g.d i),(RX<|(d f.d g.d i).drop<|spl<|d f.d g.d i)):=by unfold C8;rw[pN hl]
 rw[hN] at S V T U P Q;dsimp only at S V T U P Q;refine Cr I<|Ak I<|Ad<|Cs I<|EJ Bj I Z4 I<|Lo G4 1 I<|Nk<|Sb 33 true I (hl)<|Am I<|Cr I<|Ak I<|Ad<|Ad<|DP (λj=>(Ac bp 135 f.c).at j/\(Ac bc 135 g.c).at j/\(O5 o t r).at j/\Ec j vl ds (Q7 (x.s.al 1).1)) I St.drawn<|Aq 0 I (λ_ h=>Rx) uf<|Aq 1 I (λ_ h=>Rx) (AH f.c I AV AK I (λ_ h=>h.1) (I)<|I)<|Aq 2 I (λ_ h=>Rx) (AH g.c I AV AK I (λ_ h=>h.2.1) (I)<|I)<|Aq 3 I (λ_ h=>Rx) Zd<|Aq 4 I (λ_ h=>Rx) (Aj I Pq I (λ_ h=>h.1) I)<|Aq 5 I (λ_ h=>Rx) uf<|Aq 6 I (λ_ h=>Rx) zQ<|Aq 7 I (λ_ h=>Rx) Zj<|Aq 8 I (λ_ h=>Rx) (Aj I G3 I (λ_ h=>h.2.2.1) I)<|Aq 10 I (λ_ h=>Rx) uf ?_;refine Aq 11 I (λ_ h=>Rx) (Aw 0 I KI Z3 I (λ_ h=>h.2.2.2) I I)<|Aq 12 I (λ_ h=>Rx) ZDl ?_;refine Ou (Λ:=Lt) (Bg<|Bg BO) 4 [⟨9,44,[],λl=>aa (i:Int),λ_=>[],λl=>True⟩,⟨13,48,[9],λl=>.tuple #[.agg (⟨⟨f.s.e,(ls l 0 0),(ls l 0 1),(ls l 0 2)⟩,(BL (Bz f.d i) i (((d f.d g.d i).getD (spl<|d f.d g.d i) en0).key) jd)⟩:NV).c.toArray,.agg (OL (ls l 0 3)<|(d f.d g.d i).take<|spl<|d f.d g.d i).c.toArray,.agg (OL (ls l 0 4)<|(d f.d g.d i).drop<|spl<|d f.d g.d i).c.toArray,.bool true],λl=>[CT (ls l 0 0) (BL (Bz f.d i) i (((d f.d g.d i).getD (spl<|d f.d g.d i) en0).key) jd).kids,CU (ls l 0 1) (BL (Bz f.d i) i (((d f.d g.d i).getD (spl<|d f.d g.d i) en0).key) jd).piv,C5 (ls l 0 2) (Bz f.d i).msgs,Ct (ls l 0 3)<|(d f.d g.d i).take<|spl<|d f.d g.d i,Ct (ls l 0 4)<|(d f.d g.d i).drop<|spl<|d f.d g.d i],λl=>True⟩,⟨19,11,[],λl=>.pointer<|some ⟨(lb l 0),0,none⟩,λl=>[Ac (lb l 0) 135 NZ.c],λl=>True⟩,⟨20,12,[],λl=>.pointer<|some ⟨(lb l 0),0,none⟩,λl=>[Ac (lb l 0) 135 NZ.c],λl=>True⟩,⟨21,13,[],λl=>.pointer<|some ⟨(lb l 0),0,none⟩,λl=>[Ac (lb l 0) 135 NZ.c],λl=>True⟩] [⟨14,34,[9,13],λl=>.tuple #[.agg (⟨⟨f.s.e,(ls l 2 0),(ls l 2 1),(ls l 2 2)⟩,(BL (Bz f.d i) i (((d f.d g.d i).getD (spl<|d f.d g.d i) en0).key) jd)⟩:NV).c.toArray,.agg (OL (ls l 2 3)<|(d f.d g.d i).take<|spl<|d f.d g.d i).c.toArray,.agg (OL (ls l 2 4)<|(d f.d g.d i).drop<|spl<|d f.d g.d i).c.toArray,.bool true],λ_=>[],λl=>True⟩,⟨15,49,[9,13,14],λl=>.agg (⟨⟨f.s.e,(ls l 2 0),(ls l 2 1),(ls l 2 2)⟩,(BL (Bz f.d i) i (((d f.d g.d i).getD (spl<|d f.d g.d i) en0).key) jd)⟩:NV).c.toArray,λ_=>[],λl=>True⟩,⟨16,50,[9,13,14],λl=>.agg (OL (ls l 2 3)<|(d f.d g.d i).take<|spl<|d f.d g.d i).c.toArray,λ_=>[],λl=>True⟩,⟨17,51,[9,13,14],λl=>.agg (OL (ls l 2 4)<|(d f.d g.d i).drop<|spl<|d f.d g.d i).c.toArray,λ_=>[],λl=>True⟩,⟨18,52,[9,13,14],λl=>.bool true,λ_=>[],λl=>True⟩] A6 (λF j h2=>by have h:=h2.perm sV;exact Rx) ?_ ?_ ?_
 .refine List.forall_mem_cons.2 ⟨?_,?_⟩
  .exact XdR
  refine List.forall_mem_cons.2 ⟨?_,?_⟩
  .refine⟨_,rfl,rfl,λσ R F K A h=>?_⟩;refine Cf (Sp f g i jd y3 y1 qk y9 y2 y6 hl qr qd (qL hl).1 z4 y7 y5 (qL hl).2.1 (qL hl).2.2.1 (qL hl).2.2.2.1 (qL hl).2.2.2.2) I I I I call210 I ZDb ?_;rintro⟨sa,sb,sc,sd,se⟩ _;exact h (.bool false,0,[sa,sb,sc,sd,se]) trivial
  exact XdE
 .exact ez
 intro σ A;refine B7<|Ay 22 I<|SW AK I Nc<|Ai yB<|C3<|Ay 23 I<|SW AK I Nc<|Ai yB<|FL<|Ay 24 I<|SW AK I Nc<|Ai yB<|Aq 25 I yB uW<|An<|Kt<|Cs I<|Lm I<|Nk<|Am I<|Ad<|LZ (rg 11) 118098 (λj=>(Ac (σ 19).2.1 135 (⟨⟨f.s.e,((σ 13).2.2.getD 0 sv0),((σ 13).2.2.getD 1 sv0),((σ 13).2.2.getD 2 sv0)⟩,(BL (Bz f.d i) i (((d f.d g.d i).getD (spl<|d f.d g.d i) en0).key) jd)⟩:NV).c).at j/\(Ac (σ 20).2.1 135 (OL ((σ 13).2.2.getD 3 sv0)<|(d f.d g.d i).take<|spl<|d f.d g.d i).c).at j/\(Ac (σ 21).2.1 135 (OL ((σ 13).2.2.getD 4 sv0)<|(d f.d g.d i).drop<|spl<|d f.d g.d i).c).at j/\(O5 o t r).at j/\Ec j vl ds (Q7 (x.s.al 1).1)) I St.drawn (λ_ h=>⟨h.at 2 rfl,h.at 1 rfl,h.at 0 rfl,h.at 19 rfl,h.rd 8 rfl⟩) ?_;refine Md 3 I<|Ht Bu I Z3 I<|Dq I wL<|Md 2 I<|Ht Bu I Z3 I<|Dq I wL<|Dq I (AH ((⟨⟨f.s.e,((σ 13).2.2.getD 0 sv0),((σ 13).2.2.getD 1 sv0),((σ 13).2.2.getD 2 sv0)⟩,(BL (Bz f.d i) i (((d f.d g.d i).getD (spl<|d f.d g.d i) en0).key) jd)⟩:NV).c) I AV AK I (λ_ h=>h.1) (I)<|I)<|p 26 [16,17,18,19,11,3,4,5,20,21,22,23,24,25,0,1,2,6,7,8,9,10,12,13,14,15] I<|p 26 [14,15,16,17,18,19,20,21,22,23,24,25,0,1,2,3,4,5,6,7,8,9,10,11,12,13] I<|KC I<|Ee [_,_,_,_,_,_,_,_,_,_,_,_,_,_,_,_] (Xu x2 X (y0.hm.SV k2.1) (nv:=(⟨⟨f.s.e,((σ 13).2.2.getD 0 sv0),((σ 13).2.2.getD 1 sv0),((σ 13).2.2.getD 2 sv0)⟩,(BL (Bz f.d i) i (((d f.d g.d i).getD (spl<|d f.d g.d i) en0).key) jd)⟩:NV)) k2.2 S V) I call204 Tt ?_;rintro z1 ⟨Y,x5,L⟩;refine Pre.world (St _ _<|_::_::_::_::_::_::_::_::_::_::_::_::_::_::_::_::_::_::_::_::HQ.H z1) Ih ?_;refine AN<|Ks<|LH 1 (BM z1.bh) I (by rw[Y]) ?_;have k3:=k1.N7 r.up<|BL (Bz f.d i) i (((d f.d g.d i).getD (spl<|d f.d g.d i) en0).key) jd;have k4:=k2.N7 r.up<|BL (Bz f.d i) i (((d f.d g.d i).getD (spl<|d f.d g.d i) en0).key) jd;rw[<-L] at k3 k4;refine LZ (rg 11) 118098 (λj=>(Ac (σ 19).2.1 135 (⟨⟨f.s.e,((σ 13).2.2.getD 0 sv0),((σ 13).2.2.getD 1 sv0),((σ 13).2.2.getD 2 sv0)⟩,(BL (Bz f.d i) i (((d f.d g.d i).getD (spl<|d f.d g.d i) en0).key) jd)⟩:NV).c).at j/\(Ac (σ 20).2.1 135 (OL ((σ 13).2.2.getD 3 sv0)<|(d f.d g.d i).take<|spl<|d f.d g.d i).c).at j/\(Ac (σ 21).2.1 135 (OL ((σ 13).2.2.getD 4 sv0)<|(d f.d g.d i).drop<|spl<|d f.d g.d i).c).at j/\(O5 o t r).at j/\Ec j vl ds (Q7 (x.s.al 1).1)) I St.drawn (λ_ h=>⟨h.at 2 rfl,h.at 1 rfl,h.at 0 rfl,h.at 15 rfl,h.rd 5 rfl⟩)<|Md 3 I<|Ht Bu I Z3 I<|Dq I wL<|Md 2 I<|Ht Bu I Z3 I<|Dq I wL<|Dq I (AH ((OL ((σ 13).2.2.getD 3 sv0)<|(d f.d g.d i).take<|spl<|d f.d g.d i).c) I AV AK I (λ_ h=>h.2.1) (I)<|I)<|p 26 [18,19,15,3,16,8,9,20,21,22,23,24,25,0,1,2,4,5,6,7,10,11,12,13,14,17] I ?_;refine p 26 [13,14,15,16,17,18,19,20,21,22,23,24,25,0,1,2,3,4,5,6,7,8,9,10,11,12] I<|KC I<|Ee [_,_,_,_,_,_,_,_,_,_,_,_,_,_,_,_] (Nq x5 X (z1.hm.SV k3.1) (nv:=(OL ((σ 13).2.2.getD 3 sv0)<|(d f.d g.d i).take<|spl<|d f.d g.d i)) k3.2 T U jM) I call204 Tt ?_;rintro z2 ⟨h1,x1,J⟩;refine Pre.world (St _ _<|_::_::_::_::_::_::_::_::_::_::_::_::_::_::_::_::_::_::_::_::HQ.H z2) Ih ?_;refine AN<|Kt<|LH 1 (BM z2.bh) I (by rw[h1]) ?_;have k5:=k3.N7 r.lo<|RX<|(d f.d g.d i).take<|spl<|d f.d g.d i;have k6:=k4.N7 r.lo<|RX<|(d f.d g.d i).take<|spl<|d f.d g.d i;rw[<-J] at k5 k6;have h8:z2.s=(x.s.al 1).2:=ZFG;refine LZ (rg 10) 39366 (λj=>(Ac (σ 19).2.1 135 (⟨⟨f.s.e,((σ 13).2.2.getD 0 sv0),((σ 13).2.2.getD 1 sv0),((σ 13).2.2.getD 2 sv0)⟩,(BL (Bz f.d i) i (((d f.d g.d i).getD (spl<|d f.d g.d i) en0).key) jd)⟩:NV).c).at j/\(Ac (σ 20).2.1 135 (OL ((σ 13).2.2.getD 3 sv0)<|(d f.d g.d i).take<|spl<|d f.d g.d i).c).at j/\(Ac (σ 21).2.1 135 (OL ((σ 13).2.2.getD 4 sv0)<|(d f.d g.d i).drop<|spl<|d f.d g.d i).c).at j/\(O5 o t r).at j/\Ec j vl ds (Q7 (x.s.al 1).1)) I St.drawn (λ_ h=>⟨h.at 2 rfl,h.at 1 rfl,h.at 0 rfl,h.at 15 rfl,h.rd 4 rfl⟩)<|Md 3 I<|Ht Bu I Z3 I<|Dq I wL<|Dm I<|Dq I iw<|Dq I ZCK<|Dq I (AH ((OL ((σ 13).2.2.getD 4 sv0)<|(d f.d g.d i).drop<|spl<|d f.d g.d i).c) I AV AK I (λ_ h=>h.2.2.1) (I)<|I)<|p 26 [13,14,16,15,3,17,18,19,20,21,22,23,24,25,0,1,2,4,5,6,7,8,9,10,11,12] I ?_;refine p 26 [14,15,16,17,18,19,20,21,22,23,24,25,0,1,2,3,4,5,6,7,8,9,10,11,12,13] I<|KC I<|Ee [_,_,_,_,_,_,_,_,_,_,_,_,_,_,_,_] (K2 x1 t (k:=jd) (by rw[h8];exact x9) (nv:=(OL ((σ 13).2.2.getD 4 sv0)<|(d f.d g.d i).drop<|spl<|d f.d g.d i)) P Q jM) I call211 Tt ?_;rintro N ⟨h5,x4,D⟩;refine Pre.world (St _ _<|_::_::_::_::_::_::_::_::_::_::_::_::_::_::_::_::_::_::_::_::HQ.H N) Ih ?_;refine AN<|Ks<|LH 1 (BM N.bh) I (by rw[h5]) ?_;have k7:=k5.name (u:=t) (nd:=(RX<|(d f.d g.d i).drop<|spl<|d f.d g.d i)) y4;have k8:=k6.name (u:=t) (nd:=(RX<|(d f.d g.d i).drop<|spl<|d f.d g.d i)) x6;rw[<-D] at k7 k8;have O:N.bh=x.bh:=by rw[h5,h1,Y,M]
 have W:N.hm=Ow x.hm t r f.d g.d i jd:=by unfold Ow;rw[D,J,L,h7,hN]<;>rfl
 refine Cr I<|Mv 2 I<|p 26 [5,6,7,8,9,10,11,12,13,14,16,17,18,19,15,20,21,22,23,24,25,0,1,2,3,4] I<|Pm [21,21,21,21,21] I<|LW I<|Ee [_,_,_,_,_,_,_,_,_,_,_,_,_,_,_,_,_,_,_] (Nu x4 X o r k7.has) I call205 Tt ?_;rintro y ⟨E,hk,hy⟩;refine Pre.world (St _ _<|_ ::_ ::_ ::_ ::_ ::_ ::_ ::_ ::_ ::_ ::_ ::_ ::_ ::_ ::_ ::_ ::_ ::_ ::_::O5 o t ({r with pin:=false}:Rm)::HQ.H y) Ih ?_;refine Nk ?_;have w3:=k8.leave (u:=t) k7.1 qn;rw[<-show y.hm=N.hm.leave (N.hm.fi r.lo) t r.lo from hy] at w3;have h6:y.bh=x.bh:=by rw[E,O]
 refine LH 1 (BM y.bh) I (by rw[E])<|Cr I<|Mv 2 I<|LW I<|Ee [_,_,_,_,_,_,_,_,_,_,_,_,_,_,_,_,_,_,_] ZFx I call201 Tt ?_;rintro q ⟨Z,h3,C⟩;refine Pre.world (St _ _<|_ ::_ ::_ ::_ ::_ ::_ ::_ ::_ ::_ ::_ ::_ ::_ ::_ ::_ ::_ ::_ ::_ ::_ ::_::O5 o t (DU y.hm t {r with pin:=false} 0).2::HQ.H q) Ih ?_;refine AE<|AW ?_;have G:y.hm=(Eu (Ow x.hm t r f.d g.d i jd) t r).1:=by rw[hy,W]
 rw[G] at C;refine m<|m<|m<|m<|m<|m<|m<|m<|m<|m<|m<|m<|m<|m<|m<|m<|m<|m<|m<|Pm [2,2,2,2,2] I ?_;exact Pm [5,5] I xe
section
variable {P:d8} {n:Nat} {L:Env} {o:Oper} {Q:aB} {K:aO} {w0:d7} {D:bm}
def Xt {v:β->d0} {p:β->Prop} {E:aU} {F:ci} {HB:β->ci} {f:FuncId} {xs:bx} {e:ca} {d:Nat} {vs:bi} (s:Df P f vs E [] v p HB) (g:o.op=.call ⟨.value<|.func f,xs.toArray,e⟩) (hd:o.dst=some d) (c:d.blt n)
 (z:∀us w,(callFunc f us).run P w=.ok (.enter f us) w) (a:evs L xs=some vs) (y:∀w,St w0 D F w->E w) (h:∀b,p b->Pre n ((d,v b)::L) (St w0 D<|HB b++F) K):Nl P n L (St w0 D F) o Q K :=
 DA g hd c z a (λw x=>s.frame (F:=F) x<|y w x) h
end
def DW (p:Nd):c3×Nd×Nd:=if p.leaf=true then ((p.es.getD (spl p.es) en0).key,RX<|p.es.take<|spl p.es,RX<|p.es.drop<|spl p.es) else (CN p,hlA p,hlB p)
def HL (p:Nd) (ka kb:Nat):Nd:=⟨false,[],[(ka:Int),(kb:Int)],[(DW p).1],[]⟩
def SJ (L:Hm) (t:Int) (p:Nd) (ka kb:Nat):Hm:=((({L with s:=(L.s.al 2).2}:Hm).N7 0<|HL p ka kb).name t ka (DW p).2.1).name t kb (DW p).2.2
def Ny (L:Hm) (t:Int) (r:Rm) (p:Nd) (ka kb:Nat):Hm×Rm:=if L.s.left<2 then DU (L.give t) t r 3 else DU (SJ L t p ka kb) t r 0
structure mT (L:Hm) (t:Int) (r:Rm) (p:Nd) (ka kb:Nat):Prop where
 up:r.up=0
 w0:L.Rz t 0
 cl:2<=L.M.claims t
 al:2<=L.s.left->(∀j,j<2->∃k,(L.s.al j).2.fr=some k)/\(L.s.al 2).1=[ka,kb]/\ka≠kb/\V7 ka=true/\V7 kb=true/\(L.s.al 2).2.us[ka]?=some true/\(L.s.al 2).2.us[kb]?=some true/\(0:Int)≠ka/\(0:Int)≠kb
 sm:p.Sm 1000
 lf:p.leaf=true->(∀e∈p.es,e.Bd)/\2<=p.es.length/\0<lby p.es
 inn:p.leaf=false->p.kids.length=4/\p.piv.length=3/\Bt Ms.key p.msgs
 f1:2<=L.s.left->BJ (HL p ka kb)=true/\(HL p ka kb).Sm 1000
 f2:BJ (DW p).2.1=true/\(DW p).2.1.Sm 1000
 f3:BJ (DW p).2.2=true/\(DW p).2.2.Sm 1000