/- Part 17. -/
import Derived.Test.YtloldofjddbjoaaGreatJ16
set_option linter.all false
set_option maxHeartbeats 8000000
set_option maxRecDepth 100000
namespace Go.Proofs.YtloldofjddbjoaaGreat
open Go.Sep Go.RowKit Tryz
variable {r:Rm} {d c p:Nd} {i n k jd a:Nat} {α:Type} {l:cp} {b:Int} {ps:List (c3)} {lo hi:Option (c3)} {ks:bf} {es:ct} {L':Hm} {m:TL} {M:Mo} {s':OH}
def Hn {l:List α} (h:l.Nodup) {i j:Nat} {x:α} (hi:l[i]?=some x) (hj:l[j]?=some x):i=j:=by
 obtain⟨a,z⟩:=qp.1 hi;obtain⟨b,y⟩:=qp.1 hj;exact (List.getElem_inj h).1<|by rw[z,y]
def XcK {f:α->Bool} {lt:α->α->Bool} {l:List α} (z:∀x∈l,f x=true) (e:l.Pairwise<|λa b=>lt a b=true):GR f lt l=true:=P7 (λi hi=>by
 obtain⟨c,h⟩:∃c,l[i]?=some c:=⟨_,pE hi⟩
 have y:=z c<|ry h
 cases i with
 |zero=>rw[Vt h];exact y
 |succ i =>
  obtain⟨d,hd⟩:=gE l i
  rw[R7 (Nat.succ_pos i) h hd,y,CV e i (i+1) d c J hd h];rfl)
def cw (h:aS l):Bt Ms.key l:=Iz (R:=λa b:Ms=>Bs a.key b.key<0) (λ_ _ _ x c=>Cm x<|qP c)<|λ_ _ _ z y=>sW<|(G8 h y).2 _ (Nat.succ_pos _) z
def RV (lo hi:Option<|c3) (k:c3):Prop:=(∀l,lo=some l->Bs l k<=0)/\(∀h,hi=some h->Bs k h<0)
def HY (k:c3):RV none none k:=⟨λ_ e=>zZ,λ_ e=>zZ⟩
def Ub (d:Nd) (l:Option<|c3) (i:Nat):Option (c3):=if i=0 then l else d.piv[i-1]?
def Ua (d:Nd) (h:Option<|c3) (i:Nat):Option (c3):=if i<d.piv.length then d.piv[i]? else h
structure Gh where
 ht:Nat->Nat
 lo:Nat->Option (c3)
 hi:Nat->Option (c3)
 par:Nat->Option Nat
def OA {α:Type} (f:Nat->α) (b:Nat) (x:α):Nat->α:=λc=>if c=b then x else f c
def Mj (f:Nat->α) (b:Nat) (x:α):OA f b x b=x:=pN rfl
def Kw {f:Nat->α} {b c:Nat} {x:α} (h:c≠b):OA f b x c=f c:=pQ h
structure Ye (lo hi:Option (c3)) (d:Nd):Prop where
 e:∀e∈d.es,RV lo hi e.key
 m:∀m∈d.msgs,RV lo hi m.key
 p:∀p∈d.piv,RV lo hi p
structure TI (U:Nat->Prop) (N:Nat->Nd) (G:Gh):Prop where
 r:U 0/\G.lo 0=none/\G.hi 0=none/\G.par 0=none
 bd:∀b,U b->b<256
 fit:∀b,U b->BJ (N b)=true
 lf:∀b,U b->((N b).leaf=true↔G.ht b=0)
 kid:∀b,U b->∀i k,(N b).kids[i]?=some k->∃c:Nat,k=(c:Int)/\U c/\c≠0/\G.par c=some b/\G.ht c+1=G.ht b/\G.lo c=Ub (N b) (G.lo b) i/\G.hi c=Ua (N b) (G.hi b) i
 up:∀b,U b->b≠0->G.ht b<G.ht 0/\∃p,G.par b=some p/\U p/\(b:Int)∈(N p).kids
 key:∀b,U b->Ye (G.lo b) (G.hi b) (N b)
section
variable {U:Nat->Prop} {N:Nat->Nd} {G:Gh}
def Fi (h:BJ d) (y:d.leaf):d.kids=[]/\d.piv=[]/\d.msgs=[]/\Uc d.es=true/\lby d.es<=248:=by
 have x:=(GJ h).lf y;unfold BJ at h;rw[pN y] at h;unfold Gn at h;simp only[qW,rA] at h;exact⟨x.1,x.2.1,x.2.2,h.1.1,h.2⟩
def Cx (h:BJ d) (l:d.leaf=false):d.es=[]/\Tq d.kids d.piv=true/\aS d.msgs=true/\QC d.msgs<=205/\(2<=d.kids.length/\d.kids.length<=4/\d.piv.length+1=d.kids.length)/\Bt Ms.key d.msgs/\(∀m∈d.msgs,OD m=true)/\(∀p∈d.piv,OI p=true)/\Bt id d.piv:=by
 unfold BJ at h;rw[pQ<|by rw[l];decide] at h;unfold G9 HE at h;simp only[qW,rA] at h;obtain⟨⟨z,x,y⟩,k⟩:=h;have e:=ND x;refine⟨pR z,x,y,k,e.1,cw y,λm f=>?_,e.2.2,?_⟩
 .obtain⟨i,hi⟩:=tj.1 f;exact (G8 y hi).1
 unfold Tq at x;simp only[qW] at x;exact Iz (R:=λa b:c3=>Bs a b<0) (λa b c z x=>Cm z<|qP x)<|λi a b j g=>sW<|(G8 x.2.2 g).2 a (Nat.succ_pos i) j
def Fj (h:Tq ks ps):ks.Nodup:=by
 unfold Tq at h;simp only[qW] at h;have b:=h.2.1;rw[rT] at b;refine tK.2<|λi j a hj d e=>?_
 obtain⟨x,c⟩:∃x,ks[j]?=some x:=⟨_,pE hj⟩
 have hi:ks[i]?=some x:=by rw[pE a,e,<-pE hj,c]
 have z:=b i<|qm.2 J;have y:=b j<|qm.2 hj;unfold Vo at z y;rw[hi] at z;rw[c] at y;simp only[qW,rA] at z y;have:=z.2.2.symm.trans y.2.2;cases this;omega
def TI.YX (h:TI U N G) {b c:Nat} {i:Nat} (z:U b) (x:(N b).kids[i]?=some (c:Int)):U c/\c≠0/\G.par c=some b/\G.ht c+1=G.ht b/\G.lo c=Ub (N b) (G.lo b) i/\G.hi c=Ua (N b) (G.hi b) i:=by
 obtain⟨c',e,y⟩:=h.kid b z i _ x;have:c'=c:=J;subst this;exact y
def TI.inner (h:TI U N G) {b:Nat} (y:U b) {i:Nat} {k:Int} (x:(N b).kids[i]?=some k):(N b).leaf=false:=by
 cases hl:(N b).leaf with
 |false=>rfl
 |true=>rw[(Fi (h.fit b y) hl).1] at x;simp at x
def TI.node (h:TI U N G) {b:Nat} {nd:Nd} (t:U b) (s:BJ nd) (o:nd.leaf=(N b).leaf) (n:nd.kids=(N b).kids) (a:nd.piv=(N b).piv) (l:∀e∈nd.es,RV (G.lo b) (G.hi b) e.key) (hm:∀m∈nd.msgs,RV (G.lo b) (G.hi b) m.key):TI U (BQ N b nd) G:=by
 have z:∀c,(BQ N b nd c).leaf=(N c).leaf/\(BQ N b nd c).kids=(N c).kids/\(BQ N b nd c).piv=(N c).piv:=λc=>by
  by_cases e:c=b
  .subst e;rw[Jc];exact⟨o,n,a⟩
  rw[CK e];exact⟨rfl,rfl,rfl⟩
 refine⟨h.r,h.bd,λc x=>?_,λc x=>?_,λc x i k y=>?_,λc x g=>?_,λc x=>?_⟩
 .by_cases e:c=b
  .subst e;rw[Jc];exact s
  rw[CK e];exact h.fit c x
 .rw[(z c).1];exact h.lf c x
 .rw[(z c).2.1] at y;unfold Ub Ua;rw[(z c).2.2];exact h.kid c x i k y
 .obtain⟨j,p,f,q,d⟩:=h.up c x g;exact⟨j,p,f,q,by rw[(z p).2.1];exact d⟩
 by_cases e:c=b
 .subst e;rw[Jc];exact⟨l,hm,by rw[a];exact (h.key c x).p⟩
 rw[CK e];exact h.key c x
def Xjq {l:List α} {x:α} (hi:i<l.length) (j:Nat):(l.take (i+1)++([x]++l.drop (i+1)))[j]?=if j<=i then l[j]? else if j=i+1 then some x else l[j-1]?:=by
 have h:(l.take<|i+1).length=i+1:=xN;by_cases h1:j<=i
 .rw[pN h1,pL J,pM,pN J]
 rw[pQ h1,pO J,h];by_cases h2:j=i+1
 .rw[pN h2,h2,Nat.sub_self];rfl
 rw[pQ h2,pO gg,pP];congr 1;simp;omega
def cx {l:List α} {x:α} (hi:i<=l.length) (j:Nat):(l.take i++([x]++l.drop i))[j]?=if j<i then l[j]? else if j=i then some x else l[j-1]?:=by
 have h:(l.take i).length=i:=xN;by_cases h1:j<i
 .rw[pN h1,pL J,pM,pN h1]
 rw[pQ h1,pO J,h];by_cases h2:j=i
 .rw[pN h2,h2,Nat.sub_self];rfl
 rw[pQ h2,pO gg,pP];congr 1;simp;omega
structure K9 (d x y:Nd) (lo hi:Option (c3)) (pv:c3):Prop where
 fx:BJ x=true
 fy:BJ y=true
 lx:x.leaf=d.leaf
 ly:y.leaf=d.leaf
 kids:d.kids=x.kids++y.kids
 xl:∀j,j<x.kids.length->Ub x lo j=Ub d lo j/\Ua x (some pv) j=Ua d hi j
 yl:∀j,j<y.kids.length->Ub y (some pv) j=Ub d lo (j+x.kids.length)/\Ua y hi j=Ua d hi (j+x.kids.length)
 kx:Ye lo (some pv) x
 ky:Ye (some pv) hi y
 pv:RV lo hi pv
def OB (G:Gh) (N:Nat->Nd) (p c jd:Nat) (pv:c3) (y:Nd):Gh:=⟨OA G.ht jd<|G.ht c,OA G.lo jd<|some pv,OA (OA G.hi c<|some pv) jd<|G.hi c,λb=>if b=jd then some p else if (b:Int)∈y.kids then some jd else G.par b⟩
def TI.split (h:TI U N G) {p c i jd:Nat} (hp:U p) (hc:(N p).kids[i]?=some (c:Int)) (x1:¬U jd) (z1:1<=jd) (Z:jd<256) {p' x y:Nd} {pv:c3} (x7:BJ p') (x9:p'.leaf=false) (x2:p'.kids=(N p).kids.take (i+1)++([(jd:Int)]++(N p).kids.drop (i+1)))
 (h9:p'.piv=(N p).piv.take i++([pv]++(N p).piv.drop i)) (y4:∀m∈p'.msgs,RV (G.lo p) (G.hi p) m.key) (K:K9 (N c) x y (G.lo c) (G.hi c) pv):TI (λb=>U b\/b=jd) (BQ (BQ (BQ N p p') c x) jd y) (OB G N p c jd pv y):=by
 have x5:=h.inner hp hc;obtain⟨y9,y6,_,_,⟨k2,k4,kp⟩,_,_,_,_⟩:=Cx (h.fit p hp) x5;have y8:=(qp.1 hc).1;obtain⟨Q,c0,pc,h7,x3,x6⟩:=h.YX hp hc;have T:c≠p:=λe=>by rw[e] at h7;omega
 have y2:p≠jd:=λe=>x1<|e▸hp
 have H:c≠jd:=λe=>x1<|e▸Q
 have hN:∀b,BQ (BQ (BQ N p p') c x) jd y b=if b=jd then y else if b=c then x else if b=p then p' else N b:=λb=>rfl
 have np:BQ (BQ (BQ N p p') c x) jd y p=p':=by rw[hN,pQ y2,pQ<|rQ T,pN rfl]
 have nc:BQ (BQ (BQ N p p') c x) jd y c=x:=by rw[hN,pQ H,pN rfl]
 have ni:BQ (BQ (BQ N p p') c x) jd y jd=y:=by rw[hN,pN rfl]
 have no:∀b,b≠p->b≠c->b≠jd->BQ (BQ (BQ N p p') c x) jd y b=N b:=λb d A w=>by rw[hN,pQ w,pQ A,pQ d]
 have u:∀b,U b->b≠jd:=λb B e=>x1 (e▸B)
 -- a kid of p'
 have M:∀b:Nat,(b:Int)∈y.kids->U b/\G.par b=some c/\b≠0:=λb B=>by
  obtain⟨j,hj⟩:=tj.1 B;have:(N c).kids[x.kids.length+j]?=some (b:Int):=by rw[K.kids,pO A1,tT];exact hj
  have:=h.YX Q this;exact⟨this.1,this.2.2.1,this.2.1⟩
 have v:∀b,b≠jd->(b:Int)∉y.kids->(OB G N p c jd pv y).par b=G.par b:=λb d A=>by
  show (if b=jd then _ else if (b:Int)∈y.kids then _ else _)=_
  rw[pQ d,pQ A]
 have f:∀b,b≠jd->(OB G N p c jd pv y).ht b=G.ht b:=λb d=>Kw d
 have t:∀b,b≠jd->(OB G N p c jd pv y).lo b=G.lo b:=λb d=>Kw d
 have C:∀b,b≠jd->b≠c->(OB G N p c jd pv y).hi b=G.hi b:=λb d A=>by show OA (OA _ _ _) _ _ b=_;rw[Kw d,Kw A]
 have h8:(OB G N p c jd pv y).hi c=some pv:=by show OA (OA _ _ _) _ _ c=_;rw[Kw H,Mj]
 have s:(OB G N p c jd pv y).ht jd=G.ht c/\(OB G N p c jd pv y).lo jd=some pv/\(OB G N p c jd pv y).hi jd=G.hi c/\(OB G N p c jd pv y).par jd=some p:=⟨Mj _ _ _,Mj _ _ _,Mj _ _ _,pN rfl⟩
 -- kids that are not c's keep whose they are
 have S:∀b q:Nat,U q->q≠c->G.par b=some q->(b:Int)∉y.kids:=λb q R y7 B V=>by
  have:=(M b V).2.1;rw[B] at this;cases this;exact y7 rfl
 have x4:∀j k,(N p).kids[j]?=some k->j≠i->∃b:Nat,k=(b:Int)/\U b/\b≠0/\b≠c/\G.par b=some p/\G.ht b+1=G.ht p/\G.lo b=Ub (N p) (G.lo p) j/\G.hi b=Ua (N p) (G.hi p) j:=λj k o hj=>by
  obtain⟨b,e,d,A,w⟩:=h.kid p hp j k o;refine⟨b,e,d,A,λD=>hj ?_,w⟩;subst D;exact Hn (Fj y6) (by rw[o,e]) hc
 have W:∀j,p'.piv[j]?=if j<i then (N p).piv[j]? else if j=i then some pv else (N p).piv[j-1]?:=λj=>by rw[h9];exact cx A1 j
 have x8:p'.piv.length=(N p).piv.length+1:=by
  rw[h9];simp only[pK,pI,pJ,pz,sR];omega
 have y5:RV (G.lo p) (G.hi p) pv:=by
  have d:=K.pv;have o:=(h.key p hp).p;rw[x3,x6] at d;unfold Ub Ua at d;refine⟨λl hl=>?_,λz X=>?_⟩
  .by_cases g:i=0
   .rw[pN g] at d;exact d.1 l hl
   rw[pQ g] at d;obtain⟨q,R⟩:∃q,(N p).piv[i-1]?=some q:=⟨_,pE A1⟩
   exact IW ((o q<|ry R).1 l hl)<|d.1 q R
  by_cases g:i<(N p).piv.length
  .rw[pN g] at d;obtain⟨q,R⟩:∃q,(N p).piv[i]?=some q:=⟨_,pE A1⟩
   exact Cm (d.2 q R)<|qP<|(o q<|ry R).2 z X
  rw[pQ g] at d;exact d.2 z X
 refine⟨⟨.inl h.r.1,by rw[t 0<|u 0 h.r.1];exact h.r.2.1,by rw[C 0 (u 0 h.r.1)<|rQ c0];exact h.r.2.2.1,?_⟩,λb B=>?_,λb B=>?_,λb B=>?_,λb B j k o=>?_,λb B h0=>?_,λb B=>?_⟩
 .rw[v 0 (u 0 h.r.1)<|λV=>(M 0 V).2.2 rfl];exact h.r.2.2.2
 .rcases B with B|rfl
  .exact h.bd b B
  exact Z
 .rw[hN];split
  .exact K.fy
  split
  .exact K.fx
  split
  .exact x7
  rename_i d _ _;exact h.fit b<|B.resolve_right d
 .by_cases e1:b=jd
  .subst e1;rw[ni,s.1,K.ly];exact h.lf c Q
  have n:=B.resolve_right e1;rw[f b e1];by_cases D:b=c
  .subst D;rw[nc,K.lx];exact h.lf b Q
  by_cases e3:b=p
  .subst e3;rw[np,x9,<-x5];exact h.lf b n
  rw[no b e3 D e1];exact h.lf b n
 .by_cases e1:b=jd
  .subst e1;rw[ni] at o ⊢;have hj:=(qp.1 o).1;have L:(N c).kids[j+x.kids.length]?=some k:=by rw[K.kids,pO A1,Nat.add_sub_cancel];exact o
   obtain⟨z,O,d,A,w,F,E,J⟩:=h.kid c Q _ k L;have y1:=K.yl j hj;have X:(z:Int)∈y.kids:=by rw[<-O];exact ry o
   have P:z≠c:=λe=>by rw[e] at F;omega
   refine⟨z,O,.inl d,A,?_,?_,?_,?_⟩
   .show (if z=b then _ else if (z:Int)∈y.kids then _ else _)=_
    rw[pQ<|u z d,pN X]
   .rw[f z<|u z d,s.1];exact F
   .rw[t z<|u z d,s.2.1,y1.1];exact E
   rw[C z (u z d) P,s.2.2.1,y1.2];exact J
  have n:=B.resolve_right e1;by_cases D:b=c
  .subst D;rw[nc] at o ⊢;have hj:=(qp.1 o).1;have L:(N b).kids[j]?=some k:=by rw[K.kids,pL hj];exact o
   obtain⟨z,O,d,A,w,F,E,J⟩:=h.kid b Q _ k L;have y3:=K.xl j hj;have P:z≠b:=λe=>by rw[e] at F;omega
   have X:(z:Int)∉y.kids:=λX=>by
    cases hl:(N b).leaf with
    |true=>rw[(Fi (h.fit b Q) hl).1] at L;simp at L
    |false =>
     have hn:=Fj (Cx (h.fit b Q) hl).2.1;rw[K.kids] at hn;exact (su.1 hn).2.2 k (ry o) k (by rw[O];exact X) I
   refine⟨z,O,.inl d,A,by rw[v z (u z d) X];exact w,gK,by rw[t z<|u z d,t b e1,y3.1];exact E,by rw[C z (u z d) P,h8,y3.2];exact J⟩
  by_cases e3:b=p
  .subst e3;rw[np] at o ⊢;rw[x2,Xjq y8] at o;rw[t b e1,C b e1 D];unfold Ub Ua;rw[W,W,x8];by_cases g1:j<=i
   .rw[pN g1] at o;by_cases g2:j=i
    .subst g2;rw[hc] at o;cases o
     refine⟨c,rfl,.inl Q,c0,by rw[v c H<|S c b n (rQ T) pc];exact pc,by rw[f c H,f b e1];exact h7,?_,?_⟩
     .rw[t c H,x3];unfold Ub;exact ZCw
     rw[h8,pN A1,pQ A1,pN rfl]
    obtain⟨z,O,d,A,Y,w,F,E,J⟩:=x4 j k o g2;refine⟨z,O,.inl d,A,ZGZ,gK,?_,?_⟩
    .rw[t z<|u z d,E];unfold Ub;exact ZCw
    rw[C z (u z d) Y,J];unfold Ua;rw[pN A1,pN A1,pN A1]
   rw[pQ g1] at o;by_cases g2:j=i+1
   .rw[pN g2] at o;cases o
    refine⟨jd,rfl,.inr rfl,A1,s.2.2.2,by rw[s.1,f b e1];exact h7,?_,?_⟩
    .rw[s.2.1,pQ A1,pQ A1,pN A1]
    rw[s.2.2.1,x6];unfold Ua;by_cases g3:i<(N b).piv.length
    .rw[pN g3,pN A1,pQ A1,pQ A1,show j-1=i by omega]
    rw[pQ g3,pQ A1]
   rw[pQ g2] at o;obtain⟨z,O,d,A,Y,w,F,E,J⟩:=x4 (j-1) k o A1;refine⟨z,O,.inl d,A,ZGZ,gK,?_,?_⟩
   .rw[t z<|u z d,E];unfold Ub;rw[pQ A1,pQ A1,pQ A1,pQ A1]
   rw[C z (u z d) Y,J];unfold Ua;by_cases g3:j-1<(N b).piv.length
   .rw[pN g3,pN A1,pQ A1,pQ A1]
   rw[pQ g3,pQ A1]
  rw[no b e3 D e1] at o ⊢;obtain⟨z,O,d,A,w,F,E,J⟩:=h.kid b n j k o;have P:z≠c:=λe=>by rw[e,pc] at w;cases w;exact e3 rfl
  refine⟨z,O,.inl d,A,by rw[v z (u z d)<|S z b n D w];exact w,gK,by rw[t z<|u z d,t b e1];exact E,by rw[C z (u z d) P,C b e1 D];exact J⟩
 .rw[f 0<|u 0 h.r.1];by_cases e1:b=jd
  .subst e1;refine⟨by rw[s.1];exact (h.up c Q c0).1,p,s.2.2.2,.inl hp,?_⟩;rw[np,x2];simp
  have n:=B.resolve_right e1;obtain⟨d,q,A,w,F⟩:=h.up b n h0;rw[f b e1];refine⟨d,?_⟩;by_cases V:(b:Int)∈y.kids
  .refine⟨jd,?_,.inr rfl,by rw[ni];exact V⟩;show (if b=jd then _ else if (b:Int)∈y.kids then _ else _)=_
   rw[pQ e1,pN V]
  refine⟨q,by rw[v b e1 V];exact A,.inl w,?_⟩;by_cases D:q=c
  .subst D;rw[nc];rw[K.kids] at F;exact (rB.1 F).resolve_right V
  by_cases e3:q=p
  .subst e3;rw[np,x2];rw[<-qV (i+1) (N q).kids] at F;rcases rB.1 F with E|E
   .exact qh _ E
   exact sw _<|sw _ E
  rw[no q e3 D<|u q w];exact F
 by_cases e1:b=jd
 .subst e1;rw[ni,s.2.1,s.2.2.1];exact K.ky
 have n:=B.resolve_right e1;by_cases D:b=c
 .subst D;rw[nc,t b e1,h8];exact K.kx
 rw[t b e1,C b e1 D];by_cases e3:b=p
 .subst e3;rw[np];refine⟨(by rw[(Cx x7 x9).1];intro e he;cases he),y4,λq R=>?_⟩;rw[h9] at R;rcases rB.1 R with E|E
  .exact (h.key b n).p q<|pF E
  rcases rB.1 E with J|J
  .simp at J;rw[J];exact y5
  exact (h.key b n).p q<|List.mem_of_mem_drop J
 rw[no b e3 D e1];exact h.key b n
end
def JR (G:Gh) (a b:Nat) (pv:c3) (x y:Nd):Gh:=⟨λc=>if c=a\/c=b then G.ht 0 else if c=0 then G.ht 0+1 else G.ht c,λc=>if c=a then none else if c=b then some pv else G.lo c,λc=>if c=a then some pv else if c=b then none else G.hi c,λc=>if c=a\/c=b then some 0 else if (c:Int)∈x.kids then some a else if (c:Int)∈y.kids then some b else G.par c⟩
section
variable {U:Nat->Prop} {N:Nat->Nd} {G:Gh}
def TI.grow (h:TI U N G) {a b:Nat} (E:a≠b) (ha:¬U a) (hb:¬U b) (h7:1<=a/\a<256) (Y:1<=b/\b<256) {r x y:Nd} {l:c3} (Q:r=⟨false,[],[(a:Int),(b:Int)],[l],[]⟩) (h9:BJ r) (s:K9 (N 0) x y none none l) :
 TI (λc=>U c\/c=a\/c=b) (BQ (BQ (BQ N 0 r) a x) b y) (JR G a b l x y):=by
 have m:=h.r.1;have V:∀c,BQ (BQ (BQ N 0 r) a x) b y c=if c=b then y else if c=a then x else if c=0 then r else N c:=λc=>rfl
 have W:BQ (BQ (BQ N 0 r) a x) b y a=x:=by rw[V,pQ E,pN rfl]
 have nb:BQ (BQ (BQ N 0 r) a x) b y b=y:=by rw[V,pN rfl]
 have O:BQ (BQ (BQ N 0 r) a x) b y 0=r:=by rw[V,pQ A1,pQ A1,pN rfl]
 have no:∀c,c≠0->c≠a->c≠b->BQ (BQ (BQ N 0 r) a x) b y c=N c:=λc g n B=>by rw[V,pQ B,pQ n,pQ g]
 have J:∀c,U c->c≠a/\c≠b:=λc f=>⟨λe=>ha<|e▸f,λe=>hb<|e▸f⟩
 have t:∀c,U c->c≠0->(JR G a b l x y).ht c=G.ht c:=λc f X=>by
  have:=J c f;show (if c=a\/c=b then _ else if c=0 then _ else _)=_
  rw[pQ A1,pQ X]
 have H:(JR G a b l x y).ht 0=G.ht 0+1:=by
  show (if 0=a\/0=b then _ else if 0=0 then _ else _)=_
  rw[pQ A1,pN rfl]
 have w:(JR G a b l x y).ht a=G.ht 0:=pN VY;have A:(JR G a b l x y).ht b=G.ht 0:=pN VZ
 have lo:∀c,U c->(JR G a b l x y).lo c=G.lo c:=λc f=>by
  exact ZCZ
 have hi:∀c,U c->(JR G a b l x y).hi c=G.hi c:=λc f=>by
  exact ZCZ
 have i:(JR G a b l x y).lo a=none/\(JR G a b l x y).hi a=some l/\(JR G a b l x y).lo b=some l/\(JR G a b l x y).hi b=none:=⟨pN rfl,pN rfl,ZES,ZES⟩
 have p:∀c,U c->(JR G a b l x y).par c=if (c:Int)∈x.kids then some a else if (c:Int)∈y.kids then some b else G.par c:=λc f=>by
  have:=J c f;show (if c=a\/c=b then _ else _)=_
  rw[pQ A1]
 have C:(JR G a b l x y).par a=some 0/\(JR G a b l x y).par b=some 0:=⟨pN VY,pN VZ⟩
 have k0:∀c:Nat,(c:Int)∈x.kids\/(c:Int)∈y.kids->U c/\c≠0/\G.par c=some 0:=λc f=>by
  have:(c:Int)∈(N 0).kids:=by rw[s.kids];exact rB.2 f
  obtain⟨j,hj⟩:=tj.1 this;have:=h.YX m hj;exact⟨this.1,this.2.1,this.2.2.1⟩
 have x1:∀z,z∈x.kids->z∈y.kids->False:=λz g n=>by
  cases hl:(N 0).leaf with
  |true =>
   have:=(Fi (h.fit 0 m) hl).1;rw[s.kids] at this;rw[(List.append_eq_nil_iff.1 this).1] at g;cases g
  |false =>
   have S:=Fj (Cx (h.fit 0 m) hl).2.1;rw[s.kids] at S;exact (su.1 S).2.2 z g z n I
 have P:∀q:Nat,U q->q≠0->∀c:Nat,U c->G.par c=some q->(JR G a b l x y).par c=some q:=λq hq X c f hp=>by
  rw[p c f]
  have S:∀z:Nat,z=c->¬((z:Int)∈x.kids\/(z:Int)∈y.kids):=λz e K=>by
   subst e;have:=(k0 z K).2.2;rw[hp] at this;cases this;exact X rfl
  rw[pQ<|λe=>S c rfl (.inl e),pQ<|λe=>S c rfl (.inr e)];exact hp
 refine⟨⟨.inl m,by rw[lo 0 m];exact h.r.2.1,by rw[hi 0 m];exact h.r.2.2.1,?_⟩,λc f=>?_,λc f=>?_,λc f=>?_,λc f j k o=>?_,λc f M=>?_,λc f=>?_⟩
 .rw[p 0 m,pQ<|λe=>(k0 0<|.inl e).2.1 rfl,pQ<|λe=>(k0 0<|.inr e).2.1 rfl];exact h.r.2.2.2
 .rcases f with f|rfl|rfl
  .exact h.bd c f
  .exact h7.2
  exact Y.2
 .rw[V];split
  .exact s.fy
  split
  .exact s.fx
  split
  .exact h9
  rename_i g n _;exact h.fit c<|f.resolve_right<|by rintro (e|e);exact n e;exact g e
 .by_cases e1:c=b
  .subst e1;rw[nb,A,s.ly];exact h.lf 0 m
  by_cases e2:c=a
  .subst e2;rw[W,w,s.lx];exact h.lf 0 m
  by_cases e3:c=0
  .subst e3;rw[O,H,Q];simp
  have d:=f.resolve_right za;rw[no c e3 e2 e1,t c d e3];exact h.lf c d
 .by_cases e1:c=b
  .subst e1;rw[nb] at o ⊢;have hj:=(qp.1 o).1;have F:(N 0).kids[j+x.kids.length]?=some k:=by rw[s.kids,pO A1,Nat.add_sub_cancel];exact o
   obtain⟨z,D,g,n,B,u,v,L⟩:=h.kid 0 m _ k F;have R:=s.yl j hj;have K:(z:Int)∈y.kids:=by rw[<-D];exact ry o
   refine⟨z,D,.inl g,n,by rw[p z g,pQ<|λe=>x1 _ e K,pN K],by rw[t z g n,A];exact u,?_,?_⟩
   .rw[lo z g,i.2.2.1,R.1,v,h.r.2.1]
   rw[hi z g,i.2.2.2,R.2,L,h.r.2.2.1]
  by_cases e2:c=a
  .subst e2;rw[W] at o ⊢;have hj:=(qp.1 o).1;have F:(N 0).kids[j]?=some k:=by rw[s.kids,pL hj];exact o
   obtain⟨z,D,g,n,B,u,v,L⟩:=h.kid 0 m _ k F;have T:=s.xl j hj;have K:(z:Int)∈x.kids:=by rw[<-D];exact ry o
   refine⟨z,D,.inl g,n,by rw[p z g,pN K],by rw[t z g n,w];exact u,?_,?_⟩
   .rw[lo z g,i.1,T.1,v,h.r.2.1]
   rw[hi z g,i.2.1,T.2,L,h.r.2.2.1]
  by_cases e3:c=0
  .subst e3;rw[O,Q] at o ⊢;rw[lo 0 m,hi 0 m,h.r.2.1,h.r.2.2.1,H]
   match j with
   |0 =>
    simp at o;subst o;exact⟨a,rfl,.inr WM,A1,C.1,by rw[w],i.1,i.2.1⟩
   |1 =>
    simp at o;subst o;exact⟨b,rfl,.inr<|.inr I,A1,C.2,by rw[A],i.2.2.1,i.2.2.2⟩
   |j+2=>simp at o
  have d:=f.resolve_right za;rw[no c e3 e2 e1] at o ⊢;obtain⟨z,D,g,n,B,u,v,L⟩:=h.kid c d j k o;exact⟨z,D,.inl g,n,P c d e3 z g B,by rw[t z g n,t c d e3];exact u,by rw[lo z g,lo c d];exact v,by rw[hi z g,hi c d];exact L⟩
 .rw[H];by_cases e1:c=b
  .subst e1;exact⟨by rw[A];omega,0,C.2,.inl m,by rw[O,Q];simp⟩
  by_cases e2:c=a
  .subst e2;exact⟨by rw[w];omega,0,C.1,.inl m,by rw[O,Q];simp⟩
  have d:=f.resolve_right za;obtain⟨g,q,n,B,u⟩:=h.up c d M;refine⟨by rw[t c d M];omega,?_⟩;by_cases hx:(c:Int)∈x.kids
  .exact⟨a,by rw[p c d,pN hx],.inr WM,by rw[W];exact hx⟩
  by_cases hy:(c:Int)∈y.kids
  .exact⟨b,by rw[p c d,pQ hx,pN hy],.inr<|.inr I,by rw[nb];exact hy⟩
  have h8:q≠0:=λe=>by
   rw[e,s.kids] at u;rcases rB.1 u with v|v
   .exact hx v
   exact hy v
  exact⟨q,by rw[p c d,pQ hx,pQ hy];exact n,.inl B,by rw[no q h8 (J q B).1 (J q B).2];exact u⟩
 by_cases e1:c=b
 .subst e1;rw[nb,i.2.2.1,i.2.2.2];exact s.ky
 by_cases e2:c=a
 .subst e2;rw[W,i.1,i.2.1];exact s.kx
 by_cases e3:c=0
 .subst e3;rw[O,lo 0 m,hi 0 m,h.r.2.1,h.r.2.2.1,Q];exact⟨λe Z=>(by cases Z),λe Z=>(by cases Z),λq _=>HY q⟩
 have d:=f.resolve_right za;rw[no c e3 e2 e1,lo c d,hi c d];exact h.key c d
end
def N5 (y:∀m∈l,OD m=true) (x:Bt Ms.key l):aS l=true:=XcK y<|x.imp<|λh=>sT h
def QU (c:2<=ks.length/\ks.length<=4/\ps.length+1=ks.length) (f:∀z∈ks,1<=z/\z<256) (a:ks.Nodup) (d:∀p∈ps,OI p=true) (g:Bt id ps):Tq ks ps=true:=by
 unfold Tq;rw[sT c,show GR OI ltK ps=true from XcK d (g.imp<|λh=>sT h),Xb3<|λi hi=>?_]
 .rfl
 obtain⟨z,x⟩:∃z,ks[i]?=some z:=⟨_,pE hi⟩
 have y:=f z<|ry x;unfold Vo;rw[x];dsimp only;rw[sT y.1,sT y.2];refine sT<|Db x (sT I)<|λw b=>?_
 obtain⟨j,hj⟩:=tj.1 b;rw[pM] at hj;split at hj
 .rename_i hlt;refine sS<|λe=>?_
  subst e;have:=Hn a hj x;omega
 cases hj
def QV (y:Dl es) (x:∀e∈es,OI e.key=true/\Qd e.val=true) (h:lby es<=248):BJ (RX es)=true:=by
 unfold BJ Gn RX;rw[pN rfl];dsimp only;rw[Xku y x,sT h];rfl
def Jd (x:d.leaf=false) (y:d.es=[]) (a:Tq d.kids d.piv) (h:aS d.msgs) (z:QC d.msgs<=205):BJ d=true:=by
 unfold BJ G9 HE;rw[pQ Yn,y,a,h,sT z];rfl
def H0:∀{l r:cp},r.Sublist l->QC r<=QC l
 |_,_,.slnil=>Int.le_refl _
 |_,_,.cons a h=>by
  have:=H0 h
  have x:=KW a
  show _<=((a::_).map Qq).sum
  rw[qG,tZ]
  unfold QC at this ⊢;omega
 |_,_,.cons_cons a h=>by
  have:=H0 h
  show ((a::_).map Qq).sum<=((a::_).map Qq).sum
  rw[qG,qG,tZ,tZ]
  unfold QC at this;omega
def Je (l:cp) (ps:List<|c3) (i:Nat):(Ed l ps i).Sublist l:=(List.drop_sublist _ _).trans<|tV _ _
def gv (l:cp):(YT l).Sublist l:=tV _ _
def XaL (p:Nd) (i:Nat):(MJ p i).Sublist (Ed p.msgs p.piv i):=gv _
def Lb (l g:cp):(GB l g).Sublist l:=List.filter_sublist
def Xbx:∀(l:cp) (s:Int),s<=96->s+QC (l.take<|KY s l)<=96
 |[],s,h=>by simp[QC];exact h
 |m::l,s,h=>by
  unfold KY
  split
  .rename_i h2
   have:=Xbx l (s+Qq m) h2
   rw[pD]
   show s+((m::_).map Qq).sum<=96
   rw[qG,tZ]
   unfold QC at this;omega
  .simp[QC];exact h
def Xa9 (p:Nd) (i:Nat):QC (MJ p i)<=96:=by
 have:=Xbx (Ed p.msgs p.piv i) 0 K;unfold MJ YT;omega
def N6 (b:Bt Ms.key l) {lo hi:Option<|c3} (z:∀m∈l,RV lo hi m.key) (c:i<=ps.length) {m:Ms} (hm:m∈Ed l ps i):RV (if i=0 then lo else ps[i-1]?) (if i<ps.length then ps[i]? else hi) m.key:=by
 have a:=z m<|(Je l ps i).mem hm;have x:m∈l.take (X3 l ps i):=List.mem_of_mem_drop hm
 have y:m∈l.drop (X4 l ps i):=by
  unfold Ed at hm;rw[List.drop_take] at hm;exact pF hm
 refine⟨λq h=>?_,λq h=>?_⟩
 .split at h
  .exact a.1 q h
  rename_i h0;unfold X4 at y;rw[pQ h0,DO h] at y;have d:=Xlm b y;have e:=XK m.key q;omega
 split at h
 .rename_i h0;unfold X3 at x;rw[pN h0,DO h] at x;exact XlC x
 exact a.2 q h
def Kx (h:H7 d=some i):d.leaf=false/\i<d.kids.length/\0<QC (Ed d.msgs d.piv i):=by
 unfold H7 at h;split at h
 .cases h
 rename_i hl;obtain⟨y,_,x⟩:=Sq h;rw[DO<|Xcn y] at x;exact⟨by simpa using hl,y,x⟩
def Ta (h:H7 d=some i):MJ d i≠[]:=by
 obtain⟨_,_,x⟩:=Kx h;intro e;unfold MJ YT at e;cases hb:Ed d.msgs d.piv i with
 |nil=>rw[hb] at x;exact absurd x (by simp[QC])
 |cons m l =>
  rw[hb] at e;have y:=(KW m).2;unfold KY at e;rw[pN J,pD] at e;cases e
def gw {l:ct} {m:Ms} (hm:OD m):lby (Hz l m)<=Qq m:=by
 have x:=J3 hm;unfold Hz;unfold Qq;rw[pN hm];split
 .rename_i h;show ([_].map S9).sum<=_
  simp only[qG,qH,tZ,List.sum_nil];unfold S9;unfold F8 at h ⊢;split
  .rename_i h1;dsimp only;omega
  rename_i h1;rw[pQ h1] at h;split
  .rename_i h2;show 2+m.key.n+(E5 _ _).n+0<=_
   show 2+m.key.n+8+0<=_
   omega
  rename_i h2;rw[pQ h2] at h;cases h
 show (0:Int)<=_
 split
 .rename_i h1;have:=J4 hm h1;omega
 split<;>omega
def Mk (a b:ct):lby (a++b)=lby a+lby b:=by unfold lby;rw[qR,List.sum_append]
def gx {l:ct} (h:RE l) {m:Ms} (hm:OD m):lby (Dw l m)<=lby l+Qq m:=by
 have z:lby l=lby (l.take<|Dn l m.key)+lby (l.drop<|Dn l m.key):=by rw[<-Mk,qV]
 have a:lby (l.drop<|Dn l m.key+(if V3 l m.key=true then 1 else 0))<=lby (l.drop<|Dn l m.key):=QO (λe x=>h.ok e xq)<|by rw[<-pX];exact List.drop_sublist _ _
 have y:=gw (l:=l) hm;unfold Dw;rw[Mk,Mk];omega
def Wa:∀{ms:cp} {l:ct},RE l->(∀m∈ms,OD m=true)->lby (BZ l ms)<=lby l+QC ms
 |[],l,_,_=>by show lby l<=lby l+(([]:cp).map Qq).sum;simp
 |m::ms,l,h,hm=>by
  have a:=Wa (ms:=ms) (h.put Zw)<|λx y=>hm x<|sr _ y
  have b:=gx h Zw
  have z:QC (m::ms)=Qq m+QC ms:=by unfold QC;rw[qG,tZ]
  show lby (BZ (Dw l m) ms)<=_
  omega
def lp {e:En} (h:OI e.key=true/\Qd e.val=true):2<=S9 e/\S9 e<=26:=by
 have y:=F7 h.1;have x:=GP h.2;unfold S9;omega
def UE {l:ct} (y:2<=l.length) (d:0<lby l):1<=spl l/\spl l<l.length:=by
 have b:∀k,k<l.length->(List.range l.length)[k]?=some k:=λk c=>by rw[pE<|by rw[tr];exact c];simp
 have x:FG l (l.length-1)=false:=by unfold FG;rw[sS J];rfl
 have a:spl l<l.length:=by
  rcases pG (spl l) l.length with h|h
  .exact h
  have z:=OU (p:=FG l) (l:=List.range l.length) (j:=l.length-1) (e:=l.length-1) (show l.length-1<(List.takeWhile (FG l)<|List.range l.length).length by unfold spl at h;omega) (b _ J);rw[x] at z;cases z
 refine⟨?_,a⟩;rcases qg (spl l) with h|h
 .have z:=IZ (p:=FG l) (l:=List.range l.length) (e:=0) (by show (List.range l.length)[spl l]?=_;rw[h];exact b 0 J);rw[T4 y d] at z;cases z
 exact h
def cy {l:ct} (h:RE l) (o:248<lby l) (n:lby l<=344):1<=spl l/\spl l<l.length/\lby (l.take<|spl l)<=248/\lby (l.drop<|spl l)<=248:=by
 have q:=QN h.ok;have y:2<=l.length:=J;have f:∀k,k<l.length->(List.range l.length)[k]?=some k:=λk i=>by rw[pE<|by rw[tr];exact i];simp
 obtain⟨b,z⟩:=UE y J;have g:=OU (p:=FG l) (l:=List.range l.length) (j:=spl l-1) (e:=spl l-1) (show spl l-1<spl l by omega)<|f _ J;have x:=IZ (p:=FG l) (l:=List.range l.length) (e:=spl l)<|show (List.range l.length)[spl l]?=_ from f _ z
 obtain⟨e,a⟩:=gE l<|spl l-1;have c:=M6 a;rw[show spl l-1+1=spl l by omega] at c;have m:=lp<|h.ok e<|ry a;unfold FG at g x;rw[qW,rA,rA] at g;have d:lby l=lby (l.take<|spl l)+lby (l.drop<|spl l):=by rw[<-Mk,qV]
 refine⟨b,z,J,?_⟩;rw[Bool.and_eq_false_iff] at x;rcases x with x|x
 .have x:=of_decide_eq_false x;have hd:(l.drop<|spl l).length=1:=by rw[pJ];omega
  have:=QN (l:=l.drop<|spl l)<|λe a=>h.ok e<|List.mem_of_mem_drop a
  rw[hd] at this;omega
 have x:=of_decide_eq_false x;omega
def H3 (h:BJ d) (z:d.leaf):RE d.es:=by
 obtain⟨_,_,_,x,_⟩:=Fi h z;exact⟨R2 x,λe y=>NC x y⟩
def XaM (k:d.leaf) (o:d.kids=[]) (a:RE es) (q:1<=spl es) (n:spl es<es.length) (p:lby (es.take<|spl es)<=248) (l:lby (es.drop<|spl es)<=248) (y:∀e∈es,RV lo hi e.key) :
 K9 d (RX<|es.take<|spl es) (RX<|es.drop<|spl es) lo hi (es.getD (spl es) en0).key:=by
 obtain⟨x,f⟩:∃x,es[spl es]?=some x:=⟨_,pE n⟩
 rw[DO f];obtain⟨b,c⟩:=cn a.r f;have g:=ry f;refine⟨QV (a.r.sublist<|tV ..) (λe h=>a.ok e<|pF h) p,QV (a.r.sublist cu) (λe h=>a.ok e iT) l,k.symm,k.symm,by rw[o];rfl,λj hj=>absurd hj<|s6 _,λj hj=>absurd hj<|s6 _,⟨λe h=>⟨(y e<|pF h).1,λz i=>by cases i;exact b e h⟩,λm hm=>(by cases hm),λm hm=>(by cases hm)⟩,⟨λe h=>⟨λz i=>by cases i;have:=c e h;have:=XK e.key x.key;omega,(y e iT).2⟩,λm hm=>(by cases hm),λm hm=>(by cases hm)⟩,y x g⟩
def Pk (P:BJ d) (F:d.leaf=false) (T:d.kids.length=4) (y:Ye lo hi d):K9 d (hlA d) (hlB d) lo hi (CN d):=by
 obtain⟨R,v,K,r,⟨_,_,S⟩,a,u,t,b⟩:=Cx P F;have J:d.piv.length=3:=A1;have H:=ND v;have w:=Fj v;obtain⟨A,l⟩:∃p,d.piv[0]?=some p:=⟨_,pE A1⟩
 obtain⟨p1,h⟩:∃p,d.piv[1]?=some p:=⟨_,pE A1⟩
 obtain⟨B,k⟩:∃p,d.piv[2]?=some p:=⟨_,pE A1⟩
 have s:CN d=p1:=DO h;have D:Bs A p1<0:=CV b 0 1 A p1 A1 l h;have N:Bs p1 B<0:=CV b 1 2 p1 B A1 h k
 have c:d.piv=[A,p1,B]:=by
  apply qA;intro j
  match j with
  |0=>rw[l];rfl
  |1=>rw[h];rfl
  |2=>rw[k];rfl
  |j+3=>rw[pH A1];rfl
 have Q:=y.p A<|ry l;have O:=y.p p1<|ry h;have M:=y.p B<|ry k
 have C:∀m∈Ed d.msgs [p1] 0,RV lo (some p1) m.key:=λm hm=>by
  have:=N6 a y.m (ps:=[p1]) (i:=0) A3 hm;simpa using this
 have G:∀m∈Ed d.msgs [p1] 1,RV (some p1) hi m.key:=λm hm=>by
  have:=N6 a y.m (ps:=[p1]) (i:=1) A3 hm;simpa using this
 have g:=Je d.msgs [p1] 0;have n:=Je d.msgs [p1] 1;unfold hlA hlB;rw[s];refine⟨?_,?_,F.symm,F.symm,(qV 2 d.kids).symm,λj hj=>?_,λj hj=>?_,⟨λe E=>(by cases E),C,λq x=>?_⟩,⟨λe E=>(by cases E),G,λq x=>?_⟩,O⟩
 .refine Jd I I (QU ⟨?_,?_,?_⟩ (λz o=>H.2.1 z<|pF o) (w.sublist<|tV ..) (λq x=>t q<|pF x)<|b.sublist<|tV ..) (N5 (λm hm=>u m<|g.mem hm)<|a.sublist g) (tB (H0 g) r)
  all_goals simp only[pI];omega
 .refine Jd I I (QU ⟨?_,?_,?_⟩ (λz o=>H.2.1 z<|List.mem_of_mem_drop o) (w.sublist cu) (λq x=>t q xq)<|b.sublist cu) (N5 (λm hm=>u m<|n.mem hm)<|a.sublist n) (tB (H0 n) r)
  all_goals simp only[pJ];omega
 .have f:j<2:=by simp only[pI] at hj;omega
  unfold Ub Ua;rw[c]
  match j,f with
  |0,_=>exact⟨rfl,rfl⟩
  |1,_=>exact⟨rfl,rfl⟩
 .have f:j<2:=by simp only[pJ] at hj;omega
  have L:(d.kids.take 2).length=2:=xN;unfold Ub Ua;rw[c];dsimp only;rw[L]
  match j,f with
  |0,_=>exact⟨rfl,rfl⟩
  |1,_=>exact⟨rfl,rfl⟩
 .rw[c] at x;simp at x;subst x;exact⟨Q.1,λz o=>by cases o;exact D⟩
 rw[c] at x;simp at x;subst x;exact⟨λz o=>by cases o;omega,M.2⟩
def Xad {q:Nd} {jd:Nat} {k:c3} (N:BJ d) (G:d.leaf=false) (Q:d.kids.length<4) (hi:i<d.kids.length) (J:1<=jd/\jd<256) (O:(jd:Int)∉d.kids) (C:OI k) (v:0<i->∀p,d.piv[i-1]?=some p->Bs p k<0) (w:∀p,d.piv[i]?=some p->Bs k p<0)
 (u:q={d with msgs:=q.msgs}) (l:q.msgs.Sublist d.msgs):BJ (BL q i k jd)=true:=by
 obtain⟨F,t,H,B,⟨_,_,f⟩,A,D,r,x⟩:=Cx N G;have n:=ND t;have E:=Fj t;have M:q.leaf=false:=by rw[u];exact G
 have K:q.es=[]:=by rw[u];exact F
 have L:q.kids=d.kids:=by rw[u]
 have P:q.piv=d.piv:=by rw[u]
 unfold BL;rw[L,P];refine Jd M K (QU ⟨?_,?_,?_⟩ (λz y=>?_) ?_ (λp f=>?_) ?_) (N5 (λm hm=>D m<|l.mem hm)<|A.sublist l)<|tB (H0 l) B
 .simp only[pK,pI,pJ,pz,sR];omega
 .simp only[pK,pI,pJ,pz,sR];omega
 .simp only[pK,pI,pJ,pz,sR];omega
 .rcases rB.1 y with h|h
  .exact n.2.1 z<|pF h
  rcases rB.1 h with h|h
  .simp at h;omega
  exact n.2.1 z iT
 .show (d.kids.take (i+1)++([(jd:Int)]++d.kids.drop (i+1))).Nodup
  have f:(d.kids.take (i+1)++([(jd:Int)]++d.kids.drop (i+1))).Perm ((jd:Int)::d.kids):=by
   refine sQ.trans<|List.Perm.cons _ ?_;show (d.kids.take (i+1)++d.kids.drop (i+1)).Perm d.kids
   rw[qV]
  exact f.nodup_iff.2<|ss.2 ⟨O,E⟩
 .rcases rB.1 f with h|h
  .exact r p<|pF h
  rcases rB.1 h with h|h
  .simp at h;rw[h];exact C
  exact r p iT
 show List.Pairwise _ (d.piv.take i++([k]++d.piv.drop i))
 have g:∀p∈d.piv.take i,Bs p k<0:=λp f=>by
  obtain⟨j,hj⟩:=tj.1 f;rw[pM] at hj;split at hj
  .rename_i hlt;obtain⟨z,y⟩:=gE d.piv<|i-1;have o:=v A1 z y;by_cases e:j=i-1
   .subst e;rw[y] at hj;cases hj;exact o
   exact Cm (CV x j (i-1) p z A1 hj y)<|qP o
  cases hj
 have c:∀p∈d.piv.drop i,Bs k p<0:=λp f=>by
  obtain⟨j,hj⟩:=tj.1 f;rw[pP] at hj;obtain⟨z,y⟩:∃z,d.piv[i]?=some z:=mJ
  have o:=w z y;by_cases e:j=0
  .subst e;rw[sf,y] at hj;cases hj;exact o
  exact Cm o<|qP<|CV x i (i+j) z p A1 y hj
 refine tU.2 ⟨x.sublist<|tV ..,tU.2 ⟨List.pairwise_singleton _ _,x.sublist cu,λa s b n=>?_⟩,λa s b n=>?_⟩
 .simp at s;rw[s];exact c b n
 rcases rB.1 n with h|h
 .simp at h;rw[h];exact g a s
 exact Cm (g a s)<|qP<|c b h
structure S0 (L:Hm) (N:Nat->Nd) (d:DM) (cl:Int->Nat) (wt:Int->cf):Prop where
 h:HI L d cl wt
 n:HN L N
 s:L.s.bl.length=L.s.us.length/\L.s.us.length<=256
section
variable {L:Hm} {N:Nat->Nd} {d:DM} {cl:Int->Nat} {wt:Int->cf} {t:Int} {g:Int->cU}
def S0.no (h:S0 L N d cl wt) {b:Nat} (c:L.M.on b 2):L.no b=N b/\L.nd b=N b:=by
 obtain⟨i,f,x,a,e,_,_,z,y⟩:=h.h.Xw c;have:=h.n.nd i f x e;rw[a] at this;exact⟨by rw[y];exact this,by rw[z];exact this⟩
def S0.us (h:S0 L N d cl wt) {b:Nat} {u:Int} (hd:(d u b).isSome):L.U b:=by
 rcases (h.h.has u b hd).2 with⟨i,f,x,y,z⟩|⟨i,f,x,y,z⟩
 .have:=(h.n.us i f x<|.inl z).2;rw[y] at this;exact this
 have:=(h.n.us i f x<|.inr z).2;rw[y] at this;exact this
def S0.disk (h:S0 L N d cl wt) {b:Nat} (c:L.U b) (y:¬L.M.on b 2):∃bk,L.s.bl[b]?=some bk/\IE bk.l (N b):=by
 rcases h.n.dk b c with⟨i,f,x,e,a,_⟩|z
 .exact absurd ⟨i,f,x,a,e⟩ y
 exact z
def XaN (h:HI L d cl wt) (x:wt t=none):∀q∈L.M.line,q.1≠t:=λq y e=>by
 have:=h.line q y
 rw[e,x] at this;cases this
def HI.Tj (h:HI L d cl<|CW wt t none) (x:cf):HI L d cl (CW wt t x):=h.wt' (λq z=>by
 have a:=h.line q z
 have b:=XaN h Mi q z
 rw[QT (y:=none) q.1 b];exact a)
def S0.Tj (h:S0 L N d cl<|CW wt t none) (x:cf):S0 L N d cl (CW wt t x):=⟨h.h.Tj x,h.n,h.s⟩
def S0.up (h:S0 L N (Cb d t g) cl wt) {b:Int} {m m':TL} (f:g b=some m) (z:m≠.ld) (y:m≠.pn) (x:m'≠.ld) (a:m'≠.pn) (e:PS (L.OG<|L.fi b) t<|some m'):S0 L N (Cb d t<|λc=>if c=b then some m' else g c) cl wt:=by
 have:=h.h.up (t:=t) (b:=b) (m:=m) (m':=m') (by rw[BI];exact f) z y x a e;rw[Hl] at this;exact⟨this,h.n,h.s⟩
def S0.leave (h:S0 L N (Cb d t g) cl wt) {b:Int} {m:TL} (z:g b=some m) (y:m≠.ld) (x:m≠.pn):S0 (L.leave (L.fi b) t b) N (Cb d t<|λc=>if c=b then none else g c) cl wt:=by
 have:=h.h.leave (t:=t) (b:=b) (m:=m) (by rw[BI];exact z) y x;rw[Hl] at this;exact⟨this,h.n.leave _ _ _,h.s⟩
def S0.load (h:S0 L N (Cb d t g) cl wt) {b:Nat} (x:g b=some .ld):S0 (L.load b<|N b) N (Cb d t<|λc=>if c=b then some .pn else g c) cl wt:=by
 have:=(h.h.load (t:=t) (b:=b) ZFC<|N b).1;rw[Hl] at this;exact⟨this,h.n.load h.h b,h.s⟩
def S0.take (h:S0 L N (Cb d t g) cl wt) {b:Int} (x:g b=some .pn) (hm:L.may t) (w:Bool):S0 (L.take (L.fi b) t w) N (Cb d t<|λc=>if c=b then some (if w=true then .wq else .rq) else g c) cl wt:=by
 have:=h.h.take (t:=t) (b:=b) ZFC hm w;rw[Hl] at this;exact⟨this,h.n.take _ _ _,h.s⟩
def UF (h:S0 L N d cl wt) {b:Nat} (x:L.U b):Ry b=true:=by
 have y:=(qp.1 x).1;have z:=h.s.2;unfold Ry;rw[sT J,sT J];rfl
def Pp (L:Hm) (t b:Int):(L.pin t b).2.s=L.s:=rfl
def Xjr (L:Hm) (t:Int):(L.claim t).2.s=L.s:=rfl
def S0.pin {b:Nat} (h:S0 L N (Cb d t g) cl<|CW wt t<|some (b:Int)) (hm:L.may t) (f:g b=none) (z:L.U b) :
 (((L.pin t b).1=1\/(L.pin t b).1=2)/\S0 (L.pin t b).2 N (Cb d t<|λc=>if c=b then some .pn else g c) cl (CW wt t none))\/((L.pin t b).1=3/\S0 (L.pin t b).2 N (Cb d t<|λc=>if c=b then some .ld else g c) cl (CW wt t none))\/((L.pin t b).1=4/\S0 (L.pin t b).2 N (Cb d t g) cl (CW wt t<|some (b:Int))):=by
 have a:=h.n.pin (t:=t) (b:=b) ⟨J,z⟩;have e:=Pp L t b;rcases h.h.pin (t:=t) (b:=b) hm (by rw[BI];exact f) Mi (UF h z) (wt':=CW wt t none) (λu z=>QT u z) with⟨y,x⟩|⟨y,x⟩|⟨y,x⟩
 .rw[Hl] at x;exact .inl oL
 .rw[Hl] at x;exact .inr<|.inl oL
 exact .inr<|.inr oL
def S0.claim (h:S0 L N d (Dx cl t n)<|CW wt t<|some (-1)) (hm:L.may t) (x:cf) :
 ((L.claim t).1=true/\S0 (L.claim t).2 N d (Dx cl t<|n+1) (CW wt t x))\/((L.claim t).1=false/\S0 (L.claim t).2 N d (Dx cl t n) (CW wt t<|some (-1))):=by
 have a:=h.n.claim t;have b:=Xjr L t;rcases h.h.claim hm Mi (wt':=CW wt t x) (λu c=>QT u c) with⟨z,y⟩|⟨z,y⟩
 .rw[Jb,N1] at y;exact .inl ⟨z,y,a,by rw[b];exact h.s⟩
 exact .inr ⟨z,y,a,by rw[b];exact h.s⟩
def S0.give (h:S0 L N d (Dx cl t n) wt):S0 (L.give t) N d (Dx cl t 0) wt:=by
 have:=h.h.give t;rw[N1] at this;exact⟨this,h.n.give t,h.s⟩
def S0.N7 (h:S0 L N d cl wt) {b:Nat} (x:L.M.on b 2) (nd:Nd):S0 (L.N7 b nd) (BQ N b nd) d cl wt:=⟨h.h.N7 x nd,h.n.N7 h.h x nd,h.s⟩
def S0.name (h:S0 L N d (Dx cl t n) wt) (g:0<=t/\t<8) (a:1<=n) {b:Nat} (y:L.M.find b=none) (x:L.U b) (nd:Nd):S0 (L.name t b nd) (BQ N b nd) d (Dx cl t<|n-1) wt/\(L.name t b nd).M.on b 2/\(∀c s,s=1\/s=2->((L.name t b nd).M.on c s↔(c=(b:Int)/\s=2)\/L.M.on c s)):=by
 obtain⟨z,f,e⟩:=h.h.name g (by rw[Jb];exact a) (UF h x) y nd;rw[Jb,N1] at z;exact⟨⟨z,h.n.name h.h (by rw[Jb];exact a) (UF h x) y x nd,h.s⟩,f,e⟩
def S0.alloc (h:S0 L N d cl wt) {k:Nat} (j:L.s.fr=some k):S0 {L with s:=(L.s.alloc k).put k OX} (BQ N k Vq) d cl wt/\(∀c,Hm.U {L with s:=(L.s.alloc k).put k OX} c↔L.U c\/c=k)/\¬L.U k/\L.M.find k=none/\k<256:=by
 obtain⟨z,y⟩:=Np j;refine⟨⟨h.h.ay _,h.n.alloc h.s.1 j,?_,?_⟩,λc=>?_,λe=>(by have x:L.s.us[k]?=some true:=e;rw[y] at x;cases x),?_,by have:=h.s.2;omega⟩
 .show ((L.s.bl.set k _).set k _).length=(L.s.us.set k _).length
  rw[sI,sI,sI];exact h.s.1
 .show (L.s.us.set k _).length<=256
  rw[sI];exact h.s.2
 .show (L.s.us.set k true)[c]?=some true↔_
  rw[BN z];constructor
  .rintro (⟨e,_⟩|⟨_,e⟩)
   .exact .inr e
   exact .inl e
  intro e;by_cases x:c=k
  .exact .inl ⟨x,rfl⟩
  exact .inr ⟨x,e.resolve_right x⟩
 cases hf:L.M.find k with
 |none=>rfl
 |some i =>
  exfalso;obtain⟨f,b,a,g,_⟩:=Hj hf;have:=(h.n.us i f b g).2;rw[a] at this;have e:L.s.us[k]?=some true:=this;rw[y] at e;cases e
end
def F1 {L:Hm} {d y:DM} {cl cl':Int->Nat} {wt wt':Int->cf} (h:HI L d cl wt) (z:HI L' y cl' wt') {c:Int} (x:L'.M.Me c 2=L.M.Me c 2):L'.M.on c 2↔L.M.on c 2:=by rw[<-h.Ti,<-z.Ti,x]
def Rm.dm (r:Rm) (b:Int):cU:=if r.pin=true/\b=r.lo then some (if r.a=3 then .ld else if r.a=4 then .pn else if r.a=5 then .wq else .wr) else if (r.has=true/\b=r.up)\/(r.root=true/\b=0) then some .wr else none
def Rm.eP (x:r.pin) (h:b=r.lo):r.dm b=some (if r.a=3 then .ld else if r.a=4 then .pn else if r.a=5 then .wq else .wr):=pN ⟨x,h⟩
def Rm.ZB (h:b≠r.lo):r.dm b=if (r.has=true/\b=r.up)\/(r.root=true/\b=0) then some .wr else none:=pQ<|λe=>h e.2
def Rm.Ws {r':Rm} (h:r'.lo=r.lo) (z:r'.pin) (y:r'.has=r.has) (c:r'.root=r.root) (x:r'.up=r.up) (hm:(if r'.a=3 then TL.ld else if r'.a=4 then .pn else if r'.a=5 then .wq else .wr)=m) (b:Int):(if b=(r.lo:Int) then some m else r.dm b)=r'.dm b:=by
 by_cases hb:b=r.lo
 .rw[pN hb,Rm.eP z jL,hm]
 rw[pQ hb,Rm.ZB hb,Rm.ZB jL,y,c,x]
def Rm.wt (r:Rm):cf:=if r.a=2 then some (r.lo:Int) else if r.a=6\/r.a=7\/r.a=8 then some (-1) else none
def Rm.cl (r:Rm):Nat:=if r.a=7\/r.a=9 then 1 else if r.a=10 then 2 else 0
def Rm.dn (r:Rm):Prop:=r.a=2\/r.a=3\/r.a=4\/r.a=5\/r.a=8\/r.a=9
structure Rt (N:Nat->Nd) (r:Rm):Prop where
 a1:1<=r.a/\r.a<=10
 hs:r.has=true
 rt:r.root=(r.keep||decide (r.up=0))
 pn:r.pin=decide (r.a=3\/r.a=4\/r.a=5\/r.a=8\/r.a=9)
 up:r.up≠0->(N r.up).leaf=false/\(N r.up).kids.length<4
 lo:r.dn->(N r.up).kids.length<4/\∃i,H7 (N r.up)=some i/\(N r.up).kids[i]?=some (r.lo:Int)
 sp:r.a=8\/r.a=9->((N r.lo).leaf=false/\(N r.lo).kids.length=4)\/((N r.lo).leaf=true/\∀i,H7 (N r.up)=some i->BJ (BG (N r.lo) (MJ (N r.up) i))=false)
 gr:r.a=6\/r.a=7\/r.a=10->r.up=0/\((N 0).leaf=true/\2<=(N 0).es.length\/(N 0).leaf=false/\(N 0).kids.length=4)
def Rt.congr {N z:Nat->Nd} (h:Rt N r) (x:z r.up=N r.up) (c:r.a=8\/r.a=9->z r.lo=N r.lo):Rt z r:=by
 refine⟨h.a1,h.hs,h.rt,h.pn,?_,?_,λy=>?_,λy=>?_⟩
 .rw[x];exact h.up
 .rw[x];exact h.lo
 .rw[x,c y];exact h.sp y
 obtain⟨b,d⟩:=h.gr y;rw[b] at x;rw[x];exact⟨b,d⟩
def RmO (N:Nat->Nd) (k:Bool) (r:Rm):Prop:=r.keep=k/\(if r.a=11 then r.has=false/\r.pin=false/\r.root=k else Rt N r)
structure Kp (L:Hm) (N:Nat->Nd) (L':Hm) (N':Nat->Nd) (d:DM) (t:Int):Prop where
 nb:∀(u:Int) (b:Nat),u≠t->d u b=some .wr->N' b=N b
 us:∀b,L.U b->L'.U b
 sy:∀b:Nat,¬L'.M.on b 2->N' b=N b
section
variable {L:Hm} {N:Nat->Nd} {d:DM} {cl:Int->Nat} {wt:Int->cf} {t:Int} {g:Int->cU}
def Kp.refl (h:∀b,L.U b->L'.U b):Kp L N L' N d t:=⟨λ_ _ _ _=>rfl,h,λ_ _=>rfl⟩
def Ml (h:HI L (Cb d t g) cl wt) {b:Int} (x:g b=some .wr):L.Rz t b:=h.wr ZFC
def gz (h:S0 L N (Cb d t r.dm) cl wt) (j:r.has) (g:r.pin=false) (z:r.root=(r.keep||decide (r.up=0))) :
 ax L t r/\S0 (D3 L t r).1 N (Cb d t (D3 L t r).2.dm) cl wt/\(D3 L t r).2={r with has:=false,root:=r.keep}/\(D3 L t r).1.s=L.s/\∀c,(D3 L t r).1.M.Me c 2=L.M.Me c 2:=by
 obtain⟨keep,a,up,lo,has,pin,root,e⟩:=r;dsimp only at j g z;have f:root=(keep||decide (up=0)):=z;clear z;subst j;subst g;subst f;have i:Rm.dm ⟨keep,a,up,lo,true,false,keep||decide (up=0),e⟩ up=some .wr:=by unfold Rm.dm;simp
 refine⟨λ_=>(Ml h.h i).has,?_⟩;unfold D3;dsimp only;split
 .rename_i hk;obtain⟨y,k⟩:=hk;subst y;subst k
  have e:Rm.dm ⟨true,a,0,lo,false,false,true||decide ((0:Nat)=0),e⟩=Rm.dm ⟨true,a,0,lo,true,false,true||decide ((0:Nat)=0),e⟩:=by
   funext b;unfold Rm.dm;simp
  refine⟨by rw[e];exact h,A3,rfl,λ_=>rfl⟩
 rename_i hk;have y:=h.leave i K K;refine⟨?_,?_,rfl,λc=>Hm.aj _ _ _ c 2⟩
 .refine cast ?_ y;congr 2;funext b;unfold Rm.dm;by_cases hu0:up=0
  .have x:keep=false:=by
    exact ZF0
   subst hu0;subst x;by_cases hb:b=0<;>simp[hb]
  by_cases hb:b=up
  .have:b≠0:=by omega
   simp[hb,hu0]
  simp[hb,hu0]
 by_cases hu0:up=0
 .have x:keep=false:=by
   exact ZF0
  simp[hu0,x]
 simp[hu0]
def QW (h:S0 L N (Cb d t r.dm) cl wt) (f:r.pin) (k:r.a=5\/r.a=8\/r.a=9) (z:r.up≠r.lo) (y:r.lo≠0) :
 S0 (Eu L t r).1 N (Cb d t (Eu L t r).2.dm) cl wt/\(Eu L t r).2={r with pin:=false}/\(Eu L t r).1.s=L.s/\∀c,(Eu L t r).1.M.Me c 2=L.M.Me c 2:=by
 obtain⟨m,hm,e,g⟩:∃m,r.dm r.lo=some m/\m≠.ld/\m≠.pn:=by
  unfold Rm.dm;rw[pN ⟨f,rfl⟩,pQ J,pQ J];split
  .exact⟨_,rfl,K,K⟩
  exact⟨_,rfl,K,K⟩
 have x:=h.leave hm e g;refine⟨?_,rfl,rfl,λc=>Hm.aj _ _ _ c 2⟩;refine cast ?_ x;congr 2;funext b;unfold Eu Rm.dm;dsimp only;by_cases hb:b=r.lo
 .have j:b≠r.up:=by omega
  have i:b≠0:=J;simp[hb];refine⟨λ_=>J,λ_=>y⟩
 simp[hb]
end
section
variable {L:Hm} {N:Nat->Nd} {d:DM} {cl:Int->Nat} {wt:Int->cf} {t:Int} {G:Gh}
def Rt.Xr (h:Rt N r) (x:r.pin=true->r.up≠r.lo):r.dm r.up=some .wr:=by
 unfold Rm.dm;rw[pQ<|λe=>x e.1 J,pN<|.inl ⟨h.hs,rfl⟩]
def CF {d:Nd} (h:BJ d) {B:Nat} (x:255<=B):d.Sm B:=(GJ h).sm.mono x
def cz (h:c.Sm 255) (x:l.length<=255):(BG c l).Sm 1000:=by
 unfold BG;split
 .have:=MZ l c.es;have:=h.e;exact⟨by show (BZ c.es l).length<=1000;omega,qM h.k K,qM h.p K,qM h.m K⟩
 have:=M4 l c.msgs;have:=h.m;exact⟨qM h.e K,qM h.k K,qM h.p K,by show (GS c.msgs l).length<=1000;omega⟩
structure RB (l:cp):Prop where
 r:Bt Ms.key l
 ok:∀m∈l,OD m=true
def RB.add (h:RB l) {m:Ms} (hm:OD m):RB (Ek l m):=⟨Xgc h.r h.ok hm,gm h.r h.ok hm⟩
def RB.all:∀{ms:cp} {l:cp},RB l->(∀m∈ms,OD m=true)->RB (GS l ms)
 |[],_,h,_=>h
 |m::ms,l,h,hm=>RB.all (ms:=ms) (h.add Zw)<|λx y=>hm x<|sr _ y
def RB.rises {ms:cp} (h:RB l) (hm:∀m∈ms,OD m=true):KX l ms:=λi _=>(h.all<|λm x=>hm m<|pF x).r
def Tb:∀{ms:cp} {l:cp},RB l->(∀m∈ms,OD m=true)->∀e∈GS l ms,(∃d∈l,d.key=e.key)\/∃m∈ms,m.key=e.key
 |[],_,_,_,e,he=>.inl ⟨e,he,rfl⟩
 |m::ms,l,h,hm,e,he=>by
  rcases Tb (ms:=ms) (h.add Zw) (λx z=>hm x<|sr _ z) e he with⟨d,hd,y⟩|⟨x,z,y⟩
  .rcases (S8 h.r m).1 hd with⟨a,_⟩|a
   .exact .inl ⟨d,a,y⟩
   .exact .inr ⟨m,rW ..,by rw[<-S7 l m,<-a];exact y⟩
  .exact .inr ⟨x,sr _ z,y⟩
def UG {d:Nd} (h:BJ d) (y:d.leaf=false):RB d.msgs:=by
 obtain⟨_,_,_,_,_,x,z,_⟩:=Cx h y;exact⟨x,z⟩
def Xge (h:BJ c) {l:cp} (x:∀m∈l,OD m=true):IC c l:=by
 unfold IC;split
 .rename_i hc;exact (H3 h hc).rises x
 rename_i hc;exact (UG h<|by simpa using hc).rises x
def cC (h:BJ c) {l:cp} (f:∀m∈l,OD m=true) {lo hi:Option<|c3} (b:Ye lo hi c) (a:∀m∈l,RV lo hi m.key):(∀e∈(BG c l).es,RV lo hi e.key)/\∀m∈(BG c l).msgs,RV lo hi m.key:=by
 unfold BG;split
 .rename_i hcl;refine⟨λe d=>?_,b.m⟩;rcases NX (H3 h hcl) f e d with⟨x,y,z⟩|⟨x,y,z⟩
  .rw[<-z];exact b.e x y
  rw[<-z];exact a x y
 rename_i hcl;refine⟨b.e,λe d=>?_⟩;rcases Tb (UG h<|by simpa using hcl) f e d with⟨x,y,z⟩|⟨x,y,z⟩
 .rw[<-z];exact b.m x y
 rw[<-z];exact a x y
def Xfq (c:Nd) (l:cp):(BG c l).leaf=c.leaf/\(BG c l).kids=c.kids/\(BG c l).piv=c.piv:=by unfold BG;split<;>exact⟨rfl,rfl,rfl⟩
def XkT {l:bf} (z:l.Nodup) {i:Nat} {x:Int} (h:l[i]?=some x):SG l x=some i:=Db h (sT rfl) (λw y=>by
 obtain⟨j,hj⟩:=tj.1 y
 rw[pM] at hj
 split at hj
 .rename_i hlt
  refine sS<|λe=>?_
  subst e
  have:=Hn z hj h
  omega
 .cases hj)
def cD {l:bf} {x:Int} (h:x∉l):SG l x=none:=DG<|λz y=>sS<|λe=>h<|e▸y
structure Y2 (L:Hm) (N:Nat->Nd) (G:Gh) (r:Rm) (i:Nat):Prop where
 uu:L.U r.up
 ul:L.U r.lo
 l0:r.lo≠0
 ne:r.up≠r.lo
 pl:(N r.up).leaf=false
 k4:(N r.up).kids.length<4
 hv:H7 (N r.up)=some i
 ki:(N r.up).kids[i]?=some (r.lo:Int)
 fu:BJ (N r.up)=true
 fl:BJ (N r.lo)=true
 glo:G.lo r.lo=Ub (N r.up) (G.lo r.up) i
 ghi:G.hi r.lo=Ua (N r.up) (G.hi r.up) i
 par:G.par r.lo=some r.up
def Rt.kJ (h:Rt N r) (y:TI L.U N G) (x:L.U r.up) (hd:r.dn):∃i,Y2 L N G r i:=by
 obtain⟨k,i,a,b⟩:=h.lo hd;have z:=(Kx a).1;obtain⟨c,j,g,f,l,d⟩:=y.YX x b;exact⟨i,x,c,j,λe=>by rw[e] at f;omega,z,k,a,b,y.fit _ x,y.fit _ c,l,d,g⟩
def Y2.ms (h:Y2 L N G r i) (a:TI L.U N G):(∀m∈MJ (N r.up) i,OD m=true)/\Bt Ms.key (MJ (N r.up) i)/\(MJ (N r.up) i).length<=255/\∀m∈MJ (N r.up) i,RV (G.lo r.lo) (G.hi r.lo) m.key:=by
 obtain⟨_,_,_,_,⟨_,_,b⟩,z,hm,_⟩:=Cx h.fu h.pl;have hi:=(qp.1 h.ki).1;have y:=(XaL (N r.up) i).trans<|Je _ _ _;refine⟨λm x=>hm m<|y.mem x,z.sublist y,qM y.length_le (GJ h.fu).sm.m,λm x=>?_⟩;rw[h.glo,h.ghi];exact N6 z (a.key _ h.uu).m J<|(XaL _ _).mem x
def Y2.push (h:Y2 L N G r i) (y:TI L.U N G) (n:BJ<|BG (N r.lo)<|MJ (N r.up) i):BJ (Bz (N r.up) i)=true/\TI L.U (BQ (BQ N r.up<|Bz (N r.up) i) r.lo<|BG (N r.lo)<|MJ (N r.up) i) G:=by
 obtain⟨j,g,_,a,_,k,hm,_⟩:=Cx h.fu h.pl;obtain⟨l,p,q,o⟩:=h.ms y;have z:=Lb (N r.up).msgs<|MJ (N r.up) i;have hd:BJ (Bz (N r.up) i)=true:=Jd h.pl j g (N5 (λm c=>hm m<|z.mem c)<|k.sublist z)<|tB (H0 z) a;have b:TI L.U (BQ N r.up<|Bz (N r.up) i) G:=y.node h.uu hd rfl rfl rfl (y.key _ h.uu).e (λm c=>(y.key _ h.uu).m m<|z.mem c);have f:BQ N r.up (Bz (N r.up) i) r.lo=N r.lo:=CK<|rQ h.ne;have d:=Xfq (N r.lo)<|MJ (N r.up) i;have x:=cC h.fl l (y.key _ h.ul) o;exact⟨hd,b.node h.ul n (by rw[f];exact d.1) (by rw[f];exact d.2.1) (by rw[f];exact d.2.2) x.1 x.2⟩
def XaO (b:BJ c) (z:c.leaf) {ms:cp} (hm:∀m∈ms,OD m=true) (j:QC ms<=96) (d:BJ (BG c ms)=false):RE (BZ c.es ms)/\248<lby (BZ c.es ms)/\lby (BZ c.es ms)<=344:=by
 have y:=H3 b z;have h:=Fi b z;have x:=y.all hm;have i:=Wa y hm;have g:=h.2.2.2.2;refine⟨x,?_,J⟩;rcases Int.lt_or_le 248 (lby<|BZ c.es ms) with a|a
 .exact a
 exfalso
 have e:BG c ms=RX (BZ c.es ms):=by
  unfold BG;rw[pN z]
  have f:c=⟨true,c.es,[],[],[]⟩:=by
   conv=>lhs;rw[show c=⟨c.leaf,c.es,c.kids,c.piv,c.msgs⟩ from rfl,z,h.1,h.2.1,h.2.2.1]
  unfold RX;rw[f]
 rw[e,QV x.r x.ok a] at d;cases d
def Xbh {l:ct} (h:RE l) (z:248<lby l) (d:lby l<=344):(∀e∈l,e.Bd)/\2<=l.length/\0<lby l/\l.length<=30000:=by
 have y:=Xc7 h.ok;have c:=QN h.ok;refine⟨λe x=>?_,J,J,J⟩;have:=h.ok e x;have b:=F7 this.1;have a:=GP this.2;unfold En.Bd;omega
def Y2.split (h:Y2 L N G r i) (l:TI L.U N G) (X:((N r.lo).leaf=false/\(N r.lo).kids.length=4)\/((N r.lo).leaf=true/\BJ (BG (N r.lo)<|MJ (N r.up) i)=false)) (v:¬L.U jd) (n:1<=jd) (y:jd<256) :
 (BJ (C8 (N r.up) (N r.lo) i jd).1=true/\BJ (C8 (N r.up) (N r.lo) i jd).2.1=true/\BJ (C8 (N r.up) (N r.lo) i jd).2.2=true)/\(∃G',TI (λb=>L.U b\/b=jd) (BQ (BQ (BQ N r.up (C8 (N r.up) (N r.lo) i jd).1) r.lo (C8 (N r.up) (N r.lo) i jd).2.1) jd (C8 (N r.up) (N r.lo) i jd).2.2) G') /\
 ((N r.lo).leaf=true->(∀e∈BC (N r.up) (N r.lo) i,e.Bd)/\2<=(BC (N r.up) (N r.lo) i).length/\0<lby (BC (N r.up) (N r.lo) i)/\(BC (N r.up) (N r.lo) i).length<=30000):=by
 obtain⟨x5,x4,_,x1,⟨_,_,hp⟩,hr,hm,x3,x2⟩:=Cx h.fu h.pl;obtain⟨Z,m2,m3,m4⟩:=h.ms l;have hi:=(qp.1 h.ki).1;have hs:=Lb (N r.up).msgs<|MJ (N r.up) i
 have u:(jd:Int)∉(N r.up).kids:=λz=>by
  obtain⟨j,hj⟩:=tj.1 z;exact v (l.YX h.uu hj).1
 -- a pivot that is in the kid's range stands between
 have A:∀E,RV (G.lo r.lo) (G.hi r.lo) E->(∀q,G.lo r.lo=some q->Bs q E<0)->(0<i->∀p,(N r.up).piv[i-1]?=some p->Bs p E<0)/\∀p,(N r.up).piv[i]?=some p->Bs E p<0:=λE h1 h2=>by
  refine⟨λh0 p z=>h2 p ?_,λp z=>h1.2 p ?_⟩
  .rw[h.glo];unfold Ub;rw[pQ A1];exact z
  rw[h.ghi];unfold Ua;rw[pN (qp.1 z).1];exact z
 rcases X with⟨c,h4⟩|⟨c,hn⟩
 .have k:=Pk h.fl c h4 (l.key _ h.ul);have e:C8 (N r.up) (N r.lo) i jd=(BL (N r.up) i (CN<|N r.lo) jd,hlA<|N r.lo,hlB<|N r.lo):=by unfold C8;rw[pQ<|by rw[c];decide]
  rw[e];have h3:=(Cx h.fl c).2.2.2.2.1.2.2;have O:=(Cx h.fl c).2.2.2.2.2.2.2.2;have Q:=(Cx h.fl c).2.2.2.2.2.2.2.1;obtain⟨C,D⟩:∃p,(N r.lo).piv[0]?=some p:=⟨_,pE A1⟩
  obtain⟨p1,w⟩:∃p,(N r.lo).piv[1]?=some p:=⟨_,pE A1⟩
  have s:CN (N r.lo)=p1:=DO w
  have J:=A _ k.pv (λq R=>by
   have h5:=((l.key _ h.ul).p C<|ry D).1 q R;have M:Bs C p1<0:=CV O 0 1 C p1 A1 D w;rw[s];have h7:=XK q p1
   have h8:Bs q p1<0:=by
    have h9:=XK p1 q;rcases Int.lt_or_le (Bs q p1) 0 with d|d
    .exact d
    have P:Bs C q<0:=Cm M (by show Bs p1 q<=0;omega);have S:=XK C q;omega
   exact h8)
  have g:=Xad (q:=N r.up) h.fu h.pl h.k4 hi ⟨n,y⟩ u (Q _<|by rw[s];exact ry w) J.1 J.2 rfl (tG _);refine⟨⟨g,k.fx,k.fy⟩,⟨_,l.split h.uu h.ki v n y g h.pl rfl rfl (l.key _ h.uu).m k⟩,λe=>by rw[c] at e;cases e⟩
 have T:=H3 h.fl c;have V:=Fi h.fl c;obtain⟨f,o,t⟩:RE (BC (N r.up) (N r.lo) i)/\248<lby (BC (N r.up) (N r.lo) i)/\lby (BC (N r.up) (N r.lo) i)<=344:=XaO h.fl c Z (Xa9 _ _) hn;obtain⟨s1,Y,s3,s4⟩:=cy f o t
 have F:∀e∈BC (N r.up) (N r.lo) i,RV (G.lo r.lo) (G.hi r.lo) e.key:=λe he=>by
  rcases NX T Z e he with⟨x,z,W⟩|⟨x,z,W⟩
  .rw[<-W];exact (l.key _ h.ul).e x z
  rw[<-W];exact m4 x z
 have k:=XaM (lo:=G.lo r.lo) (hi:=G.hi r.lo) c V.1 f s1 Y s3 s4 F;have e:C8 (N r.up) (N r.lo) i jd=(BL (Bz (N r.up) i) i (((BC (N r.up) (N r.lo) i).getD (spl<|BC (N r.up) (N r.lo) i) en0).key) jd,RX<|(BC (N r.up) (N r.lo) i).take<|spl<|BC (N r.up) (N r.lo) i,RX<|(BC (N r.up) (N r.lo) i).drop<|spl<|BC (N r.up) (N r.lo) i):=by unfold C8;rw[pN c]
 rw[e];obtain⟨B,H⟩:∃x,(BC (N r.up) (N r.lo) i)[0]?=some x:=⟨_,pE A1⟩
 obtain⟨x,z⟩:∃x,(BC (N r.up) (N r.lo) i)[spl<|BC (N r.up) (N r.lo) i]?=some x:=⟨_,pE Y⟩
 have K:((BC (N r.up) (N r.lo) i).getD (spl<|BC (N r.up) (N r.lo) i) en0).key=x.key:=by rw[DO z]
 have J:=A _ k.pv (λq R=>by
  have h5:=(F B<|ry H).1 q R;have M:Bs B.key x.key<0:=CV f.r 0 _ B x A1 H z;rw[K];have h9:=XK x.key q;have S:=XK B.key q;rcases Int.lt_or_le (Bs q x.key) 0 with d|d
  .exact d
  have P:Bs B.key q<0:=Cm M (by show Bs x.key q<=0;omega)
  omega)
 have g:=Xad (q:=Bz (N r.up) i) h.fu h.pl h.k4 hi ⟨n,y⟩ u (by rw[K];exact (f.ok x<|ry z).1) J.1 J.2 rfl hs;refine⟨⟨g,k.fx,k.fy⟩,⟨_,l.split h.uu h.ki v n y g h.pl I I (λm z=>(l.key _ h.uu).m m<|hs.mem z) k⟩,λ_=>Xbh f o t⟩
end
section
variable {L:Hm} {N:Nat->Nd} {d:DM} {cl:Int->Nat} {wt:Int->cf} {t:Int} {G:Gh} {g:Int->cU}
def VU (L:Hm) (N:Nat->Nd) (d:DM) (cl:Int->Nat) (wt:Int->cf) (t:Int) (k:Bool) (p:Hm×Rm):Prop :=
 ∃N' G',S0 p.1 N' (Cb d t p.2.dm) (Dx cl t p.2.cl) (CW wt t p.2.wt)/\TI p.1.U N' G'/\RmO N' k p.2/\Kp L N p.1 N' d t
def S0.dm {g g':Int->cU} (h:S0 L N (Cb d t g) cl wt) (e:∀b,g b=g' b):S0 L N (Cb d t g') cl wt:=by
 have:g=g':=funext e;rw[<-this];exact h
def Ld (h:HI L d cl wt) {b:Int} (hd:d t b=some .wr):∀u,u≠t->d u b≠some .wr:=λu x e=>x<|h.one hd<|.inl e
def Jf (h:S0 L N (Cb d t r.dm) (Dx cl t 0)<|CW wt t none) (s:TI L.U N G) (o:r.has) (x:r.pin=false) (m:r.root=(r.keep||decide (r.up=0))) (e:Int) (i:Hm) (z:Nat->Nd) (n:∀(u:Int) (b:Nat),u≠t->d u b=some .wr->N b=z b) (c:∀b,i.U b->L.U b) (a:∀b:Nat,¬L.M.on b 2->N b=z b):VU i z d cl wt t r.keep (DU L t r e):=by
 obtain⟨_,g,y,q,k⟩:=gz h o x m;have j:∀b,(DU L t r e).1.U b↔L.U b:=λb=>by unfold DU Hm.U;dsimp only;rw[q]
 refine⟨N,G,?_,?_,⟨?_,?_⟩,⟨n,λb f=>(j b).2<|c b f,λb f=>a b<|λl=>f ?_⟩⟩
 .have p:(DU L t r e).2.dm=(D3 L t r).2.dm:=by
   unfold DU;dsimp only;rw[y];funext b;unfold Rm.dm;simp[x]
  rw[p];exact g
 .have:(DU L t r e).1.U=L.U:=funext (λb=>propext<|j b);rw[this];exact s
 .unfold DU;dsimp only;rw[y]
 .unfold DU;dsimp only;rw[pN rfl,y];exact⟨rfl,x,rfl⟩
 exact (F1 h.h g.h<|k b).2 l
def Td (h:S0 L N (Cb d t g) cl wt) {b:Nat} (z:g b=some .wr):L.no b=N b/\L.M.on b 2/\L.Rz t b:=by
 have x:=Ml h.h z;have y:=h.h.Ti.1 x.1;exact⟨(h.no y).1,y,x⟩
def rm1 (h:S0 L N (Cb d t r.dm) (Dx cl t r.cl)<|CW wt t r.wt) (m:TI L.U N G) (y:Rt N r) (o:r.a=1):Vh N L t r/\VU L N d cl wt t r.keep (Nb N L t r):=by
 have x:r.pin=false:=by rw[y.pn,o];rfl
 have f:=y.Xr<|λe=>xA
 obtain⟨j,H,F⟩:=Td h f;have E:L.U r.up:=h.us (u:=t)<|by rw[BI,f];rfl
 have A:=m.fit _ E;have s:r.cl=0:=by unfold Rm.cl;rw[o];rfl
 have q:r.wt=none:=by unfold Rm.wt;rw[o];rfl
 rw[s,q] at h
 have g:∀i,H7 (N r.up)=some i->i<(N r.up).kids.length/\∃c:Nat,(N r.up).kids[i]?=some (c:Int)/\(N r.up).kids.getD i 0=c:=λi hi=>by
  obtain⟨_,n,_⟩:=Kx hi;obtain⟨k,l⟩:∃k,(N r.up).kids[i]?=some k:=⟨_,pE n⟩
  obtain⟨c,K,_⟩:=m.kid _ E i k l;subst K;exact⟨n,c,l,DO l⟩
 constructor
 .refine⟨A1,A1,λ_=>?_,λe=>A1,λe=>A1,λe=>A1,λe=>A1,λe=>A1,λe=>A1⟩;rw[j];refine⟨λp=>?_,CF A A2,λ_=>F.has,λi hi=>?_⟩
  .have:=Cx A p;exact⟨this.2.2.2.2.2.1,this.2.2.2.2.1.2.2⟩
  obtain⟨D,c,_,n⟩:=g i hi;rw[n];exact⟨D,A1⟩
 have e:Nb N L t r=GU L t r (N r.up):=by unfold Nb;rw[pN o,j]
 rw[e];unfold GU;have z:VU L N d cl wt t r.keep (DU L t r 0):=Jf h m y.hs x y.rt 0 L N (λ_ _ _ _=>rfl) Jx<|λ_ _=>rfl
 split
 .exact z
 rename_i hn1;split
 .rename_i hg;refine⟨N,G,?_,m,⟨rfl,?_⟩,Kp.refl Jx⟩
  .exact (h.Tj<|some (-1)).dm<|λb=>by unfold Rm.dm;simp[x]
  rw[pQ A3];refine⟨⟨A3,A3⟩,y.hs,y.rt,by show r.pin=_;rw[x];rfl,y.up,λhd=>gq,λhd=>Vx,λ_=>⟨hg.1,?_⟩⟩;rw[hg.1] at hn1 hg;cases p:(N 0).leaf with
  |true=>exact .inl ⟨rfl,by rcases pG (N 0).es.length 2 with w|w;exact absurd ⟨rfl,p,w⟩ hn1;exact w⟩
  |false=>exact .inr ⟨rfl,hg.2.resolve_left<|by rw[p];decide⟩
 rename_i hn2;cases hv:H7 (N r.up) with
 |none=>exact z
 |some i =>
  obtain⟨D,c,l,J⟩:=g i hv;have v:=(Kx hv).1
  have B:(N r.up).kids.length<4:=by
   by_cases h0:r.up=0
   .have M:=(Cx A v).2.2.2.2.1.2.1;rcases pG (N r.up).kids.length 4 with C|C
    .exact C
    exact absurd ⟨h0,.inr A1⟩ hn2
   exact (y.up h0).2
  dsimp only;rw[J,rD];refine⟨N,G,?_,m,⟨rfl,?_⟩,Kp.refl Jx⟩
  .exact (h.Tj<|some (c:Int)).dm<|λb=>by unfold Rm.dm;simp[x]
  rw[pQ A3];exact⟨⟨A3,A3⟩,y.hs,y.rt,by show r.pin=_;rw[x];rfl,y.up,λ_=>⟨B,i,hv,l⟩,λhd=>Vx,λhd=>Vx⟩
def rm2 (h:S0 L N (Cb d t r.dm) (Dx cl t r.cl)<|CW wt t r.wt) (n:TI L.U N G) (y:Rt N r) (hm:L.may t) (c:r.a=2):Vh N L t r/\VU L N d cl wt t r.keep (Nb N L t r):=by
 have m:r.pin=false:=by rw[y.pn,c];rfl
 have s:=y.Xr<|λe=>by rw[m] at e;cases e
 have v:L.U r.up:=h.us (u:=t)<|by rw[BI,s];rfl
 obtain⟨i,k⟩:=y.kJ n v<|.inl c;have j:r.cl=0:=by unfold Rm.cl;rw[c];rfl
 have f:r.wt=some (r.lo:Int):=by unfold Rm.wt;rw[pN c]
 have p:=y.lo<|.inl c;constructor
 .exact⟨J,J,λe=>J,λ_=>⟨k.ul,by have:=n.bd _ k.ul;omega⟩,λe=>J,λe=>J,λe=>J,λe=>J,λe=>J⟩
 have e:Nb N L t r=((L.pin t r.lo).2,r.pinned (L.pin t r.lo).1):=by unfold Nb;simp[c]
 rw[e];rw[j,f] at h
 have q:r.dm r.lo=none:=by
  unfold Rm.dm;rw[pQ (by rw[m];intro e;cases e.1),pQ];rintro (e|e)
  .exact k.ne J
  exact k.l0 J
 have x:∀(b:Int),b=4\/b=3->Rt N {r with a:=b,pin:=true}:=λb z=>by
  refine⟨by show 1<=b/\b<=10;omega,y.hs,y.rt,?_,y.up,λ_=>p,λhd=>?_,λhd=>?_⟩
  .rcases z with rfl|rfl<;>rfl
  .rcases z with rfl|rfl<;>simp at hd
  rcases z with rfl|rfl<;>simp at hd
 rcases h.pin hm q k.ul with⟨o,g⟩|⟨o,g⟩|⟨o,g⟩
 .have l:r.pinned (L.pin t r.lo).1={r with a:=4,pin:=true}:=by unfold Rm.pinned;rw[pN o]
  rw[l];refine⟨N,G,g.dm<|Rm.Ws (r':={r with a:=4,pin:=true}) I I I I I I,n,⟨rfl,?_⟩,Kp.refl Jx⟩;rw[pQ A3];exact x 4 VY
 .have l:r.pinned (L.pin t r.lo).1={r with a:=3,pin:=true}:=by unfold Rm.pinned;rw[pQ J,pN o]
  rw[l];refine⟨N,G,g.dm<|Rm.Ws (r':={r with a:=3,pin:=true}) I I I I I I,n,⟨rfl,?_⟩,Kp.refl Jx⟩;rw[pQ A3];exact x 3 VZ
 have l:r.pinned (L.pin t r.lo).1=r:=by unfold Rm.pinned;rw[pQ J,pQ J]
 rw[l];refine⟨N,G,by rw[j,f];exact g,n,⟨rfl,?_⟩,Kp.refl Jx⟩;rw[pQ<|show ¬r.a=11 by omega];exact y
def rm3 (h:S0 L N (Cb d t r.dm) (Dx cl t r.cl)<|CW wt t r.wt) (k:TI L.U N G) (c:Rt N r) (b:r.a=3):Vh N L t r/\VU L N d cl wt t r.keep (Nb N L t r):=by
 have z:r.pin=true:=by rw[c.pn,b];rfl
 have x:r.dm r.lo=some .ld:=by unfold Rm.dm;rw[pN ⟨z,rfl⟩,pN b]
 have y:L.U r.lo:=h.us (u:=t)<|by rw[BI,x];rfl
 have g:r.cl=0:=by unfold Rm.cl;rw[b];rfl
 have j:r.wt=none:=by unfold Rm.wt;rw[b];rfl
 constructor
 .refine⟨J,J,λe=>J,λe=>J,λ_=>⟨y,(h.h.rd t r.lo).1 ZFC,h.disk y<|λn=>?_,CF (k.fit _ y) K⟩,λe=>J,λe=>J,λe=>J,λe=>J⟩;obtain⟨i,f,l,m,o⟩:=n;exact (h.h.fr i f l).s2 o t<|by rw[BI,m];exact x
 have e:Nb N L t r=(L.load r.lo<|N r.lo,{r with a:=4}):=by unfold Nb;simp[b]
 rw[e];rw[g,j] at h;refine⟨N,G,(h.load x).dm<|Rm.Ws (r':={r with a:=4}) I z I I I I,k,⟨rfl,?_⟩,Kp.refl Jx⟩
 .rw[pQ A3];exact⟨⟨A3,A3⟩,c.hs,c.rt,z,c.up,λ_=>c.lo<|.inr<|.inl b,λhd=>Vx,λhd=>Vx⟩
def rm4 (h:S0 L N (Cb d t r.dm) (Dx cl t r.cl)<|CW wt t r.wt) (g:TI L.U N G) (z:Rt N r) (hm:L.may t) (y:r.a=4):Vh N L t r/\VU L N d cl wt t r.keep (Nb N L t r):=by
 have x:r.pin=true:=by rw[z.pn,y];rfl
 have b:r.dm r.lo=some .pn:=by unfold Rm.dm;rw[pN ⟨x,rfl⟩,pQ J,pN y]
 have c:r.cl=0:=iG;have f:r.wt=none:=by unfold Rm.wt;rw[y];rfl
 constructor
 .exact⟨J,J,λe=>J,λe=>J,λe=>J,λ_=>h.h.Ti.2<|h.h.fM (by rw[BI];exact b) hm,λe=>J,λe=>J,λe=>J⟩
 have e:Nb N L t r=(L.take (L.fi r.lo) t true,{r with a:=5}):=by unfold Nb;simp[y]
 rw[e];rw[c,f] at h;refine⟨N,G,(h.take b hm true).dm<|Rm.Ws (r':={r with a:=5}) I x I I I I,g,⟨rfl,?_⟩,Kp.refl Jx⟩
 .rw[pQ j];exact⟨⟨j,j⟩,z.hs,z.rt,x,z.up,λ_=>z.lo<|.inr<|.inr Xp,λhd=>Vx,λhd=>Vx⟩
def cE {c:Int} {x:cf} (h:S0 L N (Cb d t r.dm) (Dx cl t r.cl)<|CW wt t r.wt) (i:TI L.U N G) (j:Rt N r) (hm:L.may t) (l:r.a=6\/r.a=7\/r.a=8) (y:({r with a:=c}:Rm).cl=r.cl+1/\({r with a:=c}:Rm).wt=x) (e:∀b,r.dm b=Rm.dm {r with a:=c} b) (k:RmO N r.keep {r with a:=c}):VU L N d cl wt t r.keep (Hf L t r c):=by
 have z:r.wt=some (-1):=by unfold Rm.wt;rw[pQ J,pN l]
 rw[z] at h;unfold Hf;rcases h.claim hm x with⟨f,g⟩|⟨f,g⟩
 .rw[f,pN rfl];refine⟨N,G,?_,i,k,Kp.refl Jx⟩;rw[y.1,y.2];exact g.dm e
 rw[f,pQ K];refine⟨N,G,by rw[z];exact g,i,⟨rfl,?_⟩,Kp.refl Jx⟩;rw[pQ<|show ¬r.a=11 by omega];exact j
def Xk8 (h:S0 L N (Cb d t r.dm) (Dx cl t r.cl)<|CW wt t r.wt) (f:TI L.U N G) (z:Rt N r) (hm:L.may t) (y:r.a=6\/r.a=7\/r.a=8):Vh N L t r/\VU L N d cl wt t r.keep (Nb N L t r):=by
 refine⟨⟨J,J,λe=>J,λe=>J,λe=>J,λe=>J,λe=>J,λe=>J,λe=>J⟩,?_⟩;rcases y with y|y|y
 .have c:r.pin=false:=by rw[z.pn,y];rfl
  have e:Nb N L t r=Hf L t r 7:=xE;rw[e];refine cE (x:=some (-1)) h f z hm Xp ⟨iG,rfl⟩ (λb=>by unfold Rm.dm;simp[c]) ⟨rfl,?_⟩;rw[pQ j];exact⟨⟨j,j⟩,z.hs,z.rt,c,z.up,λhd=>gq,λhd=>Vx,λ_=>z.gr Xp⟩
 .have c:r.pin=false:=by rw[z.pn,y];rfl
  have e:Nb N L t r=Hf L t r 10:=xE;rw[e];refine cE (x:=none) h f z hm (.inr Xp) ⟨iG,rfl⟩ (λb=>by unfold Rm.dm;simp[c]) ⟨rfl,?_⟩;rw[pQ j];exact⟨⟨j,j⟩,z.hs,z.rt,c,z.up,λhd=>gq,λhd=>Vx,λ_=>z.gr<|.inr Xp⟩
 have c:r.pin=true:=by rw[z.pn,y];rfl
 have e:Nb N L t r=Hf L t r 9:=xE;rw[e];refine cE (x:=none) h f z hm (.inr<|.inr y) ⟨iG,rfl⟩ (λb=>by unfold Rm.dm;rw[y];rfl) ⟨rfl,?_⟩;rw[pQ j];exact⟨⟨j,j⟩,z.hs,z.rt,c,z.up,λ_=>z.lo<|.inr<|.inr<|.inr<|.inr Xp,λ_=>z.sp Xp,λhd=>Vx⟩
end
section
variable {L:Hm} {N:Nat->Nd} {d:DM} {cl:Int->Nat} {wt:Int->cf} {t:Int} {G:Gh} {g:Int->cU}
def XcY (h:Y2 L N G r i) (x:L.no r.up=N r.up):L.ki r=i/\SG (L.no r.up).kids (r.lo:Int)=some i:=by
 have:=XkT (Fj (Cx h.fu h.pl).2.1) h.ki;unfold Hm.ki;rw[x,this];exact⟨rfl,rfl⟩
def gA (h:HI L d cl wt) {b:Int} {nd:Nd} {x:DM} {cl':Int->Nat} {wt':Int->cf} (y:HI (L.N7 b nd) x cl' wt') (c:Int):(L.N7 b nd).M.on c 2↔L.M.on c 2:=F1 h y<|Hm.ZM b nd c 2
def nL (h:S0 L N d cl wt) {a b:Nat} (f:L.M.on a 2) (e:L.M.on b 2) (x y:Nd):S0 ((L.N7 a x).N7 b y) (BQ (BQ N a x) b y) d cl wt/\(∀c:Int,((L.N7 a x).N7 b y).M.Me c 2=L.M.Me c 2):=by
 have z:=h.N7 f x;have g:=z.N7 ((gA h.h z.h b).2 e) y;exact⟨g,λc=>by rw[Hm.ZM,Hm.ZM]⟩
def Mm {b c:Nat} {x y:Nd} (h:c≠a) (z:c≠b):BQ (BQ N a x) b y c=N c:=by rw[CK z,CK h]
def rm5 (h:S0 L N (Cb d t r.dm) (Dx cl t r.cl)<|CW wt t r.wt) (C:TI L.U N G) (y:Rt N r) (hm:L.may t) (s:r.a=5):Vh N L t r/\VU L N d cl wt t r.keep (Nb N L t r):=by
 have n:r.pin=true:=by rw[y.pn,s];rfl
 have v:r.dm r.lo=some .wq:=by unfold Rm.dm;rw[pN ⟨n,rfl⟩,pQ A1,pQ A1,pN s]
 have Y:r.cl=0:=by unfold Rm.cl;rw[s];rfl
 have Q:r.wt=none:=by unfold Rm.wt;rw[s];rfl
 have O:r.dn:=.inr<|.inr<|.inr<|.inl s;have h3:L.U r.lo:=h.us (u:=t)<|by rw[BI,v];rfl
 have x1:L.U r.up:=by
  by_cases e:r.lo=r.up
  .rw[<-e];exact h3
  exact h.us (u:=t)<|by rw[BI,y.Xr<|λ_ e2=>e e2.symm];rfl
 obtain⟨i,x⟩:=y.kJ C x1 O;have q:=y.Xr<|λ_=>x.ne
 obtain⟨o,D,x5⟩:=Td h q;have p:=h.h.wq (t:=t) (b:=r.lo) (by rw[BI];exact v) hm;have w:=h.h.Ti.1 p.1;have H:=(h.no w).1;obtain⟨F,h7⟩:=XcY x o;obtain⟨m1,m2,m3,m4⟩:=x.ms C;have z:=Cx x.fu x.pl;have Z:=(qp.1 x.ki).1;have W:=cz (GJ x.fl).sm m3;have hs:=Lb (N r.up).msgs<|MJ (N r.up) i;have E:BJ (Bz (N r.up) i)=true:=Jd x.pl z.1 z.2.1 (N5 (λm hx=>z.2.2.2.2.2.2.1 m<|hs.mem hx)<|z.2.2.2.2.2.1.sublist hs)<|tB (H0 hs) z.2.2.2.1;rw[Y,Q] at h;constructor
 .refine⟨A1,A1,λe=>A1,λe=>A1,λe=>A1,λe=>A1,λ_=>?_,λe=>A1,λe=>A1⟩;rw[F,H];refine⟨x5,p,λe=>x.ne A1,h7,?_,?_,?_,?_,?_,?_,?_,?_,CF x.fl A2,?_,?_,?_⟩<;>rw[o]
  .exact x.pl
  .have:=z.2.2.2.2.1.2.2;omega
  .exact Z
  .exact z.2.2.2.2.2.1
  .exact m2
  .exact Ta x.hv
  .exact Xge x.fl m1
  .exact CF x.fu A2
  .exact W
  .exact E
  exact CF E A2
 have e:Nb N L t r=IF L t r (L.no r.up) (L.no r.lo) (L.ki r):=by unfold Nb;simp[s]
 rw[o,H,F] at e;rw[e];have l:=h.up v A2 A2 (m':=.wr) A2 A2 p.2
 -- it waits for a frame
 have h8:((N r.lo).leaf=false/\(N r.lo).kids.length=4)\/((N r.lo).leaf=true/\BJ (BG (N r.lo)<|MJ (N r.up) i)=false)->VU L N d cl wt t r.keep (L,{r with a:=8}):=λx4=>by
  refine⟨N,G,?_,C,⟨rfl,?_⟩,Kp.refl Jx⟩
  .exact (l.Tj<|some (-1)).dm<|Rm.Ws (r':={r with a:=8}) I n I I I I
  rw[pQ j];exact⟨⟨j,j⟩,y.hs,y.rt,n,y.up,λ_=>y.lo O,λ_=>x4.imp id<|λe=>⟨e.1,λj hj=>by have:=hj.symm.trans x.hv;cases this;exact e.2⟩,λhd=>Vx⟩
 unfold IF;split
 .rename_i hc;exact h8<|.inl hc
 rename_i hc1;split
 .rename_i hf;obtain⟨_,h4⟩:=x.push C hf;obtain⟨x3,x2⟩:=nL h D w (Bz (N r.up) i)<|BG (N r.lo)<|MJ (N r.up) i;obtain⟨R,b2,b3,b4⟩:=QW x3 n (.inl s) x.ne x.l0;rw[b2] at R;have hU:(Eu ((L.N7 r.up<|Bz (N r.up) i).N7 r.lo<|BG (N r.lo)<|MJ (N r.up) i) t r).1.U=L.U:=by funext b;unfold Hm.U;rw[b3];rfl
  have J:=h4;rw[<-hU] at J;have h9:∀c:Int,(Eu ((L.N7 r.up<|Bz (N r.up) i).N7 r.lo<|BG (N r.lo)<|MJ (N r.up) i) t r).1.M.on c 2↔L.M.on c 2:=λc=>F1 h.h R.h<|by rw[b4,x2]
  have:=Jf (r:={r with pin:=false}) R J y.hs rfl y.rt 0 L N (λu b P hd=>?_) (λb f=>by rw[hU];exact f) (λb f=>?_)
  .exact this
  .refine Mm (λe=>?_) (λe=>?_)
   .exact Ld h.h (t:=t) (by rw[BI];exact q) u P<|by rw[GM P,<-e];exact hd
   exact Ld l.h (t:=t) (b:=r.lo) (by rw[BI,pN rfl]) u P<|by rw[GM P,<-e];exact hd
  rw[h9] at f;exact Mm (λe=>f<|by rw[e];exact D)<|λe=>f<|by rw[e];exact w
 rename_i hf;split
 .rename_i hl;exact h8<|.inr ⟨hl,by simpa using hf⟩
 rename_i hl;have B:(N r.lo).leaf=false:=by simpa using hl
 have S:(N r.lo).kids.length<4:=by
  have h5:=(Cx x.fl B).2.2.2.2.1.2.1;rcases pG (N r.lo).kids.length 4 with h6|h6
  .exact h6
  exact absurd ⟨B,A1⟩ hc1
 have K:Rt N {r with up:=r.lo,has:=true,pin:=false,root:=r.keep,a:=1}:=⟨⟨j,j⟩,rfl,by show r.keep=(r.keep||decide (r.lo=0));rw[sS x.l0,Bool.or_false],rfl,λ_=>⟨B,S⟩,λhd=>gq,λhd=>Vx,λhd=>Vx⟩
 have X:(if (r.up:Int)=(r.lo:Int) then some TL.wr else r.dm r.up)=some .wr:=by
  rw[pQ<|λe=>x.ne A1];exact q
 unfold D3;split
 .rename_i hk;have hr:r.root=r.keep:=by rw[y.rt,hk.2];rfl
  show VU L N d cl wt t r.keep (L,{r with up:=r.lo,has:=true,pin:=false,a:=1})
  rw[show ({r with up:=r.lo,has:=true,pin:=false,a:=1}:Rm)={r with up:=r.lo,has:=true,pin:=false,root:=r.keep,a:=1} by rw[<-hr]];refine⟨N,G,l.dm<|λb=>?_,C,⟨rfl,?_⟩,Kp.refl Jx⟩
  .have g:=x.l0;unfold Rm.dm;by_cases f:b=r.lo
   .simp[f]
   simp[f,hk.1,hk.2,y.rt,y.hs]
  rw[pQ j];exact K
 rename_i hk;have T:=l.leave X A2 A2
 have A:(if r.up=0 then false else r.root)=r.keep:=by
  rw[y.rt];by_cases g:r.up=0
  .rw[pN g];exact ZDI
  rw[pQ g,sS g,Bool.or_false]
 show VU L N d cl wt t r.keep (L.leave (L.fi r.up) t r.up,{r with up:=r.lo,has:=true,pin:=false,root:=if r.up=0 then false else r.root,a:=1})
 rw[A];refine⟨N,G,T.dm<|λb=>?_,C,⟨rfl,?_⟩,Kp.refl Jx⟩
 .unfold Rm.dm;by_cases f:b=r.lo
  .have:¬(r.lo:Int)=r.up:=λe=>x.ne A1
   simp[f,this]
  by_cases hb2:b=r.up
  .subst hb2;by_cases g:r.up=0
   .have k:r.keep=false:=by
     exact ZDI
    simp[f,k]
   simp[f,g]
  by_cases hb0:b=0
  .have g:r.up≠0:=λe=>hb2 A1
   have h1:¬(0:Int)=r.lo:=λe=>x.l0 A1
   have h2:¬(0:Int)=r.up:=λe=>g A1
   have V:r.root=r.keep:=by rw[y.rt,sS g,Bool.or_false]
   simp[hb0,h1,h2,V]
  simp[f,hb2,hb0]
 rw[pQ j];exact K
end
def Le (h:∀s,s=1\/s=2->¬M.on b s):M.find b=none:=by
 cases hf:M.find b with
 |none=>rfl
 |some i =>
  obtain⟨f,x,y,z,_⟩:=Hj hf;exact absurd ⟨i,f,x,y,rfl⟩<|h f.st z
def QX {s:Int} (h:M.find b=none) (x:s=1\/s=2):¬M.on b s:=fun⟨i,f,hf,hb,h2⟩=>Hk h hf (by rw[h2];exact x) hb
section
variable {L:Hm} {N:Nat->Nd} {d:DM} {cl:Int->Nat} {wt:Int->cf} {t:Int} {G:Gh} {g:Int->cU}
def Jg (h:HI L d cl wt) {b:Int} (a:L.M.on b 2) (nd:Nd) (c s:Int):(L.N7 b nd).M.on c s↔L.M.on c s:=by
 obtain⟨i,f,z,g,j,x,_⟩:=h.Xw a
 have e:L.N7 b nd=⟨⟨L.M.fr.set i {f with dirty:=true,nd:=nd},L.M.loads,L.M.line,L.M.hand⟩,L.s,L.la,L.rd⟩:=by
  unfold Hm.N7 Mo.N7 Mo.ready;rw[x];dsimp only;rw[LS z];rfl
 rw[e];exact V2 (M:=L.M) (y:={f with dirty:=true,nd:=nd}) z I I
def UI {k:Nat} (x:k≠0) (h:k<256):V7 (k:Int)=true:=by unfold V7;rw[sT J,sT J];rfl
def Xln (h:L.s.al 1=([k],s')):L.SC 1 0=k:=by unfold Hm.SC;rw[h];rfl
def rm9 (h:S0 L N (Cb d t r.dm) (Dx cl t r.cl)<|CW wt t r.wt) (K:TI L.U N G) (o:Rt N r) (ht:0<=t/\t<8) (p:r.a=9):Vh N L t r/\VU L N d cl wt t r.keep (Nb N L t r):=by
 have E:r.pin=true:=by rw[o.pn,p];rfl
 have D:r.dm r.lo=some .wr:=by rw[Rm.eP E rfl,p];rfl
 have x4:r.cl=1:=by unfold Rm.cl;rw[p];rfl
 have x8:r.wt=none:=by unfold Rm.wt;rw[p];rfl
 have y8:r.dn:=.inr<|.inr<|.inr<|.inr<|.inr p;have P:L.U r.lo:=h.us (u:=t)<|by rw[BI,D];rfl
 have C:L.U r.up:=by
  by_cases e:r.lo=r.up
  .rw[<-e];exact P
  exact h.us (u:=t)<|by rw[BI,o.Xr<|λ_ e2=>e e2.symm];rfl
 obtain⟨i,y⟩:=o.kJ K C y8;have h7:=o.Xr<|λ_=>y.ne
 obtain⟨x,X,y5⟩:=Td h h7;obtain⟨Q,W,h9⟩:=Td h D;obtain⟨Z,x2⟩:=XcY y x;obtain⟨m1,m2,m3,m4⟩:=y.ms K;have h8:=Cx y.fu y.pl;have y7:=(qp.1 y.ki).1;have F:((N r.lo).leaf=false/\(N r.lo).kids.length=4)\/((N r.lo).leaf=true/\BJ (BG (N r.lo)<|MJ (N r.up) i)=false):=(o.sp<|.inr p).imp id (λe=>⟨e.1,e.2 i y.hv⟩)
 -- what is so of a block that is left
 have w:1<=L.s.left->∃k,L.s.fr=some k/\L.s.al 1=([k],(L.s.alloc k).put k OX)/\L.SC 1 0=k/\k≠0:=λz=>by
  obtain⟨k,f,A⟩:=al1 z;exact⟨k,f,A,Xln A,λe=>by subst e;exact (h.alloc f).2.2.1 K.r.1⟩
 have H:∀k,L.s.fr=some k->k≠0->_:=λk w y9=>y.split K F (h.alloc w).2.2.1 A1 (h.alloc w).2.2.2.2
 rw[x4,x8] at h;constructor
 .refine⟨A1,A1,λe=>A1,λe=>A1,λe=>A1,λe=>A1,λe=>A1,λ_=>?_,λe=>A1⟩;rw[Z,Q]
  have T:(N r.lo).leaf=true->J9 (N r.lo).es (MJ (N r.up) i)/\(∀e∈BC (N r.up) (N r.lo) i,e.Bd)/\2<=(BC (N r.up) (N r.lo) i).length/\0<lby (BC (N r.up) (N r.lo) i)/\(BC (N r.up) (N r.lo) i).length<=30000:=λz=>by
   have x5:=H3 y.fl z;have T:=Fi y.fl z
   have hn:BJ (BG (N r.lo)<|MJ (N r.up) i)=false:=by
    rcases F with e|e
    .rw[e.1] at z;cases z
    exact e.2
   obtain⟨q1,q2,q3⟩:=XaO y.fl z m1 (Xa9 _ _) hn;exact⟨x5.rises m1,Xbh q1 q2 q3⟩
  refine⟨y5,h9,λe=>y.ne A1,by rw[h.h.cl,Jb];exact qb _,λz=>?_,x2,?_,?_,?_,?_,?_,?_,?_,?_,CF y.fl A2,?_,λz=>?_,λz=>?_,λz=>?_,λz=>?_⟩
  .obtain⟨k,f,A,B,m⟩:=w z;obtain⟨_,_,g,_,Y⟩:=h.alloc f;rw[B,x,A];refine⟨λj hj=>⟨k,by rw[show j=0 by omega];exact f⟩,rfl,UI m Y,?_,cD<|λhx=>?_,λe=>g ?_,λe=>g ?_⟩
   .show (L.s.us.set k true)[k]?=some true
    rw[tE (Np f).1]
   .obtain⟨j,hj⟩:=tj.1 hx;exact g (K.YX C hj).1
   .have:r.up=k:=by omega
    rw[<-this];exact C
   have:r.lo=k:=by omega
   rw[<-this];exact P
  .rw[x];exact y.pl
  .rw[x];exact y.k4
  .rw[x];exact y7
  .rw[x];exact h8.2.2.2.2.1.2.2
  .rw[x];exact h8.2.2.2.2.2.1
  .rw[x];exact m2
  .rw[x];exact Ta y.hv
  .rw[x];exact CF y.fu A2
  .rw[x];exact T
  .rcases F with e|e
   .have h5:=Cx y.fl z;have h6:=h5.2.2.2.2.1.2.2;exact⟨e.2,A1,h5.2.2.2.2.2.1⟩
   rw[e.1] at z;cases z
  .obtain⟨k,f,A,B,m⟩:=w z;rw[B,x];exact⟨(H k f m).1.1,CF (H k f m).1.1 A2⟩
  .obtain⟨k,f,A,B,m⟩:=w z;rw[B,x];exact⟨(H k f m).1.2.1,CF (H k f m).1.2.1 A2⟩
  obtain⟨k,f,A,B,m⟩:=w z;rw[B,x];exact⟨(H k f m).1.2.2,CF (H k f m).1.2.2 A2⟩
 have e:Nb N L t r=Nx L t r (L.no r.up) (L.no r.lo) (L.ki r) (L.SC 1 0):=by unfold Nb;simp[p]
 rw[x,Q,Z] at e;rw[e];unfold Nx;split
 .have f:=h.give;obtain⟨J,b2,b3,b4⟩:=QW f E (.inr<|.inr p) y.ne y.l0;rw[b2] at J;have V:(Eu (L.give t) t r).1.U=L.U:=by funext b;unfold Hm.U;rw[b3];rfl
  have l:=K;rw[<-V] at l;exact Jf J l o.hs I o.rt 3 L N (λ_ _ _ _=>I) (λb q=>by rw[V];exact q)<|λ_ _=>I
 rename_i z;obtain⟨k,k1,k2,k3,k0⟩:=w A1;obtain⟨hA,S,y1,x6,y3⟩:=h.alloc k1;obtain⟨_,⟨G',y2⟩,_⟩:=H k k1 k0
 have hH:Ow L t r (N r.up) (N r.lo) i (L.SC 1 0)=((({L with s:=(L.s.alloc k).put k OX}:Hm).N7 r.up (C8 (N r.up) (N r.lo) i k).1).N7 r.lo (C8 (N r.up) (N r.lo) i k).2.1).name t k (C8 (N r.up) (N r.lo) i k).2.2:=by
  unfold Ow;rw[k3,k2]
 have n:({L with s:=(L.s.alloc k).put k OX}:Hm).M.on r.up 2:=X;have R:({L with s:=(L.s.alloc k).put k OX}:Hm).M.on r.lo 2:=W;obtain⟨s2,f2⟩:=nL hA n R (C8 (N r.up) (N r.lo) i k).1 (C8 (N r.up) (N r.lo) i k).2.1;have y6:=hA.N7 n (C8 (N r.up) (N r.lo) i k).1;have v:∀c s,((({L with s:=(L.s.alloc k).put k OX}:Hm).N7 r.up (C8 (N r.up) (N r.lo) i k).1).N7 r.lo (C8 (N r.up) (N r.lo) i k).2.1).M.on c s↔L.M.on c s:=λc s=>(Jg y6.h ((Jg hA.h n _ _ _).2 R) _ c s).trans<|Jg hA.h n _ c s
 have x7:((({L with s:=(L.s.alloc k).put k OX}:Hm).N7 r.up (C8 (N r.up) (N r.lo) i k).1).N7 r.lo (C8 (N r.up) (N r.lo) i k).2.1).M.find k=none:=Le<|λs hs=>by rw[v];exact QX x6 hs
 obtain⟨s3,o3,p3⟩:=s2.name ht (qb 1) x7 ((S k).2 VZ) (C8 (N r.up) (N r.lo) i k).2.2;have x1:∀c,Hm.U (((({L with s:=(L.s.alloc k).put k OX}:Hm).N7 r.up (C8 (N r.up) (N r.lo) i k).1).N7 r.lo (C8 (N r.up) (N r.lo) i k).2.1).name t k (C8 (N r.up) (N r.lo) i k).2.2) c↔L.U c\/c=k:=S
 have y4:BQ (BQ (BQ (BQ N k Vq) r.up (C8 (N r.up) (N r.lo) i k).1) r.lo (C8 (N r.up) (N r.lo) i k).2.1) k (C8 (N r.up) (N r.lo) i k).2.2=BQ (BQ (BQ N r.up (C8 (N r.up) (N r.lo) i k).1) r.lo (C8 (N r.up) (N r.lo) i k).2.1) k (C8 (N r.up) (N r.lo) i k).2.2:=by
  funext c;unfold BQ;split
  .rfl
  split
  .rfl
  split
  .rfl
  rfl
 rw[y4,Nat.sub_self] at s3;rw[hH];obtain⟨J,b2,b3,b4⟩:=QW s3 E (.inr<|.inr p) y.ne y.l0;rw[b2] at J
 have V:(Eu (((({L with s:=(L.s.alloc k).put k OX}:Hm).N7 r.up (C8 (N r.up) (N r.lo) i k).1).N7 r.lo (C8 (N r.up) (N r.lo) i k).2.1).name t k (C8 (N r.up) (N r.lo) i k).2.2) t r).1.U=λc=>L.U c\/c=k:=by
  funext c;unfold Hm.U;rw[b3];exact propext<|x1 c
 have l:=y2;rw[<-V] at l
 have x3:∀c:Int,(Eu (((({L with s:=(L.s.alloc k).put k OX}:Hm).N7 r.up (C8 (N r.up) (N r.lo) i k).1).N7 r.lo (C8 (N r.up) (N r.lo) i k).2.1).name t k (C8 (N r.up) (N r.lo) i k).2.2) t r).1.M.on c 2↔(c=(k:Int)\/L.M.on c 2):=λc=>by
  rw[F1 s3.h J.h<|b4 c,p3 c 2 VZ,v];simp
 refine Jf J l o.hs I o.rt 0 L N (λu b O hd=>?_) (λb q=>by rw[V];exact .inl q)<|λb q=>?_
 .have x9:b≠k:=λe=>by
   refine y1 ?_;rw[<-e];exact h.us (u:=u)<|by rw[GM O,hd];rfl
  rw[CK x9];refine Mm (λe=>?_)<|λe=>?_
  .exact Ld h.h (t:=t) (by rw[BI];exact h7) u O<|by rw[GM O,<-e];exact hd
  exact Ld h.h (t:=t) (by rw[BI];exact D) u O<|by rw[GM O,<-e];exact hd
 rw[x3] at q;rw[CK<|λe=>q<|.inl A1];exact Mm (λe=>q<|.inr<|by rw[e];exact X)<|λe=>q<|.inr<|by rw[e];exact W
def lr {j:Nat} (h:L.s.al 2=([k,j],s')):L.SC 2 0=k/\L.SC 2 1=j:=by unfold Hm.SC;rw[h];exact⟨rfl,rfl⟩
def Xfr (c:BJ p) (g:p.leaf=true/\2<=p.es.length\/p.leaf=false/\p.kids.length=4):K9 p (DW p).2.1 (DW p).2.2 none none (DW p).1/\(p.leaf=true->(∀e∈p.es,e.Bd)/\2<=p.es.length/\0<lby p.es):=by
 rcases g with⟨z,f⟩|⟨z,j⟩
 .have x:=H3 c z;have a:=Fi c z;have e:DW p=((p.es.getD (spl p.es) en0).key,RX<|p.es.take<|spl p.es,RX<|p.es.drop<|spl p.es):=by unfold DW;rw[pN z]
  rw[e];have y:=XbP x.ok J;have b:lby (p.es.take<|spl p.es)<=248:=tB (QO x.ok<|tV ..) a.2.2.2.2;have d:lby (p.es.drop<|spl p.es)<=248:=tB (QO x.ok cu) a.2.2.2.2;obtain⟨k,i⟩:=UE f y;refine⟨XaM z a.1 x k i b d<|λe _=>HY _,λ_=>⟨λe l=>?_,f,y⟩⟩;have:=x.ok e l;have o:=F7 this.1;have n:=GP this.2;unfold En.Bd;omega
 have e:DW p=(CN p,hlA p,hlB p):=by unfold DW;rw[pQ Rw]
 rw[e];refine⟨Pk c z j ⟨λe _=>HY _,λm _=>HY _,λq _=>HY _⟩,λh=>by rw[z] at h;cases h⟩
def Te {b:Nat} (o:K9 p (DW p).2.1 (DW p).2.2 lo hi (DW p).1) (g:BJ p) (m:p.leaf=true/\2<=p.es.length\/p.leaf=false/\p.kids.length=4) (k:a≠b) (s:1<=a/\a<256) (u:1<=b/\b<256):BJ (HL p a b)=true:=by
 have l:OI (DW p).1=true:=by
  rcases m with⟨c,j⟩|⟨c,r⟩
  .have y:=H3 g c;have e:(DW p).1=(p.es.getD (spl p.es) en0).key:=by unfold DW;rw[pN c]
   obtain⟨t,i⟩:=UE j<|XbP y.ok J;obtain⟨x,f⟩:∃x,p.es[spl p.es]?=some x:=⟨_,pE i⟩
   rw[e,DO f];exact (y.ok x<|ry f).1
  have e:(DW p).1=CN p:=by unfold DW;rw[pQ<|by rw[c];decide]
  have d:=Cx g c;obtain⟨q,h⟩:∃q,p.piv[1]?=some q:=⟨_,pE (by have:=d.2.2.2.2.1.2.2;omega)⟩
  rw[e,show CN p=q from DO h];exact d.2.2.2.2.2.2.2.1 q<|ry h
 refine Jd I I (QU ⟨by show 2<=2;decide,by show 2<=4;decide,rfl⟩ (λz n=>?_) ?_ (λq h=>?_) um) I<|by show (0:Int)<=205;decide
 .simp[HL] at n;omega
 .show [(a:Int),(b:Int)].Nodup
  simp;omega
 simp[HL] at h;rw[h];exact l
def oE (h:S0 L N (Cb d t r.dm) (Dx cl t r.cl)<|CW wt t r.wt) (Z:TI L.U N G) (w:Rt N r) (ht:0<=t/\t<8) (O:r.a=10):Vh N L t r/\VU L N d cl wt t r.keep (Nb N L t r):=by
 have E:r.pin=false:=by rw[w.pn,O];rfl
 obtain⟨m,Y⟩:=w.gr<|.inr<|.inr O;have A:=w.Xr<|λe=>by rw[E] at e;cases e
 obtain⟨B,D,hw⟩:=Td h A;rw[m] at A B D hw;have u0:=Z.r.1;have S:=Z.fit 0 u0;have x1:r.cl=2:=by unfold Rm.cl;rw[O];rfl
 have h6:r.wt=none:=by unfold Rm.wt;rw[O];rfl
 rw[x1,h6] at h;obtain⟨v,h8⟩:=Xfr S Y
 have hk:2<=L.s.left->∃k j,L.s.fr=some k/\((L.s.alloc k).put k OX).fr=some j/\L.s.al 1=([k],(L.s.alloc k).put k OX)/\L.s.al 2=([k,j],(((L.s.alloc k).put k OX).alloc j).put j OX)/\k≠0/\j≠0/\k≠j/\k<256/\j<256/\¬L.U k/\¬L.U j:=λf=>by
  obtain⟨k,j,p,n,R,g⟩:=al2 f;have l:=h.alloc p;have F:=l.1.alloc n;have hj:¬(L.U j\/j=k):=λe=>F.2.2.1<|(l.2.1 j).2 e
  exact⟨k,j,p,n,R,g,λe=>l.2.2.1<|e▸u0,λe=>hj<|.inl<|e▸u0,λe=>hj<|.inr e.symm,l.2.2.2.2,F.2.2.2.2,l.2.2.1,λe=>hj<|.inl e⟩
 constructor
 .refine⟨A1,A1,λe=>A1,λe=>A1,λe=>A1,λe=>A1,λe=>A1,λe=>A1,λ_=>?_⟩;rw[show L.no (r.up:Int)=N 0 by rw[m];exact B];refine⟨m,hw,by rw[h.h.cl,Jb];exact qb _,λf=>?_,CF S A2,h8,λf=>?_,λf=>?_,⟨v.fx,CF v.fx A2⟩,⟨v.fy,CF v.fy A2⟩⟩
  .obtain⟨k,j,p,n,R,g,k0,j0,o,x,y,W,X⟩:=hk f;obtain⟨Q,J⟩:=lr g;rw[Q,J,g];refine⟨λi hi=>?_,rfl,o,UI k0 x,UI j0 y,?_,?_,A1,A1⟩
   .match i,hi with
    |0,_=>exact⟨k,p⟩
    |1,_=>exact⟨j,by rw[R];exact n⟩
   .show ((L.s.us.set k true).set j true)[k]?=some true
    rw[tW<|rQ o,tE (Np p).1]
   show ((L.s.us.set k true).set j true)[j]?=some true
   exact tE (Np n).1
  .rcases Y with e|e
   .rw[e.1] at f;cases f
   have h5:=Cx S f;have:=h5.2.2.2.2.1.2.2;exact⟨e.2,A1,h5.2.2.2.2.2.1⟩
  obtain⟨k,j,p,n,R,g,k0,j0,o,x,y,W,X⟩:=hk f;obtain⟨Q,J⟩:=lr g;rw[Q,J];have:=Te v S Y o ⟨A1,x⟩ ⟨A1,y⟩;exact⟨this,CF this A2⟩
 have e:Nb N L t r=Ny L t r (L.no r.up) (L.SC 2 0) (L.SC 2 1):=by unfold Nb;simp[O]
 rw[show L.no (r.up:Int)=N 0 by rw[m];exact B] at e;rw[e];unfold Ny;split
 .exact Jf h.give Z w.hs E w.rt 3 L N (λ_ _ _ _=>I) (λ_ q=>q)<|λ_ _=>I
 rename_i f;obtain⟨k,j,p,n,R,g,k0,j0,o,x,y,W,X⟩:=hk A1;obtain⟨Q,J⟩:=lr g;have l:=h.alloc p;have F:=l.1.alloc n;have P:=Z.grow o W X ⟨A1,x⟩ ⟨A1,y⟩ (r:=HL (N 0) k j) rfl (Te v S Y o ⟨A1,x⟩ ⟨A1,y⟩) v
 have h9:SJ L t (N 0) (L.SC 2 0) (L.SC 2 1)=((({L with s:=(((L.s.alloc k).put k OX).alloc j).put j OX}:Hm).N7 0<|HL (N 0) k j).name t k (DW<|N 0).2.1).name t j (DW<|N 0).2.2:=by
  unfold SJ;rw[Q,J,g]
 rw[h9];have K:S0 ({L with s:=(((L.s.alloc k).put k OX).alloc j).put j OX}:Hm) (BQ (BQ N k Vq) j Vq) (Cb d t r.dm) (Dx cl t 2) (CW wt t none):=F.1;have T:({L with s:=(((L.s.alloc k).put k OX).alloc j).put j OX}:Hm).M.on ap 2:=D;have x2:=K.N7 T<|HL (N 0) k j;have z:∀c s,(({L with s:=(((L.s.alloc k).put k OX).alloc j).put j OX}:Hm).N7 ap<|HL (N 0) k j).M.on c s↔L.M.on c s:=λc s=>Jg K.h T _ c s
 have C:∀c,Hm.U ({L with s:=(((L.s.alloc k).put k OX).alloc j).put j OX}:Hm) c↔L.U c\/c=k\/c=j:=λc=>by
  rw[show Hm.U ({L with s:=(((L.s.alloc k).put k OX).alloc j).put j OX}:Hm) c↔_ from F.2.1 c,l.2.1 c,or_assoc]
 have x3:(({L with s:=(((L.s.alloc k).put k OX).alloc j).put j OX}:Hm).N7 ap<|HL (N 0) k j).M.find k=none:=Le<|λs V=>by rw[z];exact QX l.2.2.2.1 V
 obtain⟨s2,o2,p2⟩:=x2.name ht A2 x3 ((C k).2<|.inr VY) (DW<|N 0).2.1
 have h7:((({L with s:=(((L.s.alloc k).put k OX).alloc j).put j OX}:Hm).N7 ap<|HL (N 0) k j).name t k (DW<|N 0).2.1).M.find j=none:=Le<|λs V=>by
  rw[p2 _ _ V,z];rintro (⟨e,_⟩|e)
  .omega
  exact QX (M:=L.M) F.2.2.2.1 V e
 obtain⟨s3,o3,p3⟩:=s2.name ht A2 h7 ((C j).2<|.inr VZ) (DW<|N 0).2.2
 have x4:BQ (BQ (BQ (BQ (BQ N k Vq) j Vq) 0<|HL (N 0) k j) k (DW<|N 0).2.1) j (DW<|N 0).2.2=BQ (BQ (BQ N 0<|HL (N 0) k j) k (DW<|N 0).2.1) j (DW<|N 0).2.2:=by
  funext c;unfold BQ;by_cases c1:c=j
  .simp[c1]
  by_cases c2:c=k
  .simp[c2,o]
  simp[c1,c2]
 rw[x4] at s3
 have hU:(((({L with s:=(((L.s.alloc k).put k OX).alloc j).put j OX}:Hm).N7 ap<|HL (N 0) k j).name t k (DW<|N 0).2.1).name t j (DW<|N 0).2.2).U=λc=>L.U c\/c=k\/c=j:=by
  funext c;exact propext<|C c
 rw[<-hU] at P;refine Jf s3 P w.hs E w.rt 0 L N (λu b hu hd=>?_) (λb q=>by rw[hU];exact .inl q)<|λb q=>?_
 .have H:L.U b:=h.us (u:=u) (by rw[GM hu,hd];rfl);rw[CK<|λe=>X<|by rw[<-e];exact H,CK<|λe=>W<|by rw[<-e];exact H];exact CK<|λe=>(Ld h.h (t:=t) (b:=0) (by rw[BI];exact A) u hu<|by rw[GM hu];rw[e] at hd;exact hd)
 rw[p3 _ _ VZ,p2 _ _ VZ,z] at q;rw[CK<|λe=>q<|.inl ⟨A1,rfl⟩,CK<|λe=>q<|.inr<|.inl ⟨A1,rfl⟩];refine CK<|λe=>q<|.inr<|.inr ?_
 rw[e];exact D
def cF (h:S0 L N (Cb d t r.dm) (Dx cl t r.cl)<|CW wt t r.wt) (y:TI L.U N G) (x:Rt N r) (z:0<=t/\t<8) (hm:L.may t):Vh N L t r/\VU L N d cl wt t r.keep (Nb N L t r):=by
 have b:=x.a1;rcases (by omega:r.a=1\/r.a=2\/r.a=3\/r.a=4\/r.a=5\/(r.a=6\/r.a=7\/r.a=8)\/r.a=9\/r.a=10) with e|e|e|e|e|e|e|e
 .exact rm1 h y x e
 .exact rm2 h y x hm e
 .exact rm3 h y x e
 .exact rm4 h y x hm e
 .exact rm5 h y x hm e
 .exact Xk8 h y x hm e
 .exact rm9 h y x z e
 exact oE h y x z e
end
def Ie.dm (r:Ie) (b:Int):cU:=if r.pin=true/\b=r.blk then some (if r.at'=2 then .ld else if r.at'=3 then .pn else .rq) else if r.UZ=true/\b=r.par then some .rd else none
def Ie.wt (r:Ie):cf:=if r.at'=1 then some (r.blk:Int) else none
structure ZR (U:Nat->Prop) (r:Ie):Prop where
 a:1<=r.at'/\r.at'<=5
 pn:r.pin=decide (2<=r.at')
 u:U r.blk
 a4:r.at'=4->r.UZ=true
 a5:r.at'=5->r.UZ=false
 ne:r.UZ=true->r.blk≠r.par
def ZR.mono {U x:Nat->Prop} {r:Ie} (h:ZR U r) (y:∀b,U b->x b):ZR x r:=⟨h.a,h.pn,y _ h.u,h.a4,h.a5,h.ne⟩
def Ie.XcL {r:Ie} (x:r.pin) (h:b=r.blk):r.dm b=some (if r.at'=2 then .ld else if r.at'=3 then .pn else .rq):=pN ⟨x,h⟩
def Ie.ZB {r:Ie} (h:b≠r.blk):r.dm b=if r.UZ=true/\b=r.par then some .rd else none:=pQ<|λe=>h e.2
def Ie.Ws {r r':Ie} (h:r'.blk=r.blk) (y:r'.pin) (x:r'.UZ=r.UZ) (z:r'.par=r.par) (hm:(if r'.at'=2 then TL.ld else if r'.at'=3 then .pn else .rq)=m) (b:Int):(if b=(r.blk:Int) then some m else r.dm b)=r'.dm b:=by
 by_cases hb:b=r.blk
 .rw[pN hb,Ie.XcL y jL,hm]
 rw[pQ hb,Ie.ZB hb,Ie.ZB jL,x,z]
def Ie.Xjn (r:Ie) (l:cp):(r.SX l).t=r.t/\(r.SX l).k=r.k/\(r.SX l).blk=r.blk/\(r.SX l).v=r.v:=by unfold Ie.SX;split<;>exact⟨rfl,rfl,rfl,rfl⟩
section
variable {L:Hm} {N:Nat->Nd} {d:DM} {cl:Int->Nat} {wt:Int->cf} {G:Gh} {g:Int->cU} {t:Int}
def RdR (L:Hm) (N:Nat->Nd) (d:DM) (cl:Int->Nat) (wt:Int->cf) (t:Int) (p:Hm×Ie×Bool):Prop :=
 p.1.s=L.s/\p.2.1.t=t/\(if p.2.2=true then S0 p.1 N (Cb d t<|λ_=>none) cl (CW wt t none) else S0 p.1 N (Cb d t p.2.1.dm) cl (CW wt t p.2.1.wt)/\ZR L.U p.2.1)
def Xde (h:S0 L N (Cb d t g) cl wt) (z:TI L.U N G) {b:Nat} (y:g b=some .ld):kS N L b t:=by
 have x:L.U b:=h.us (u:=t)<|by rw[BI,y];rfl
 refine⟨x,(h.h.rd t b).1 (by rw[BI];exact y),h.disk x<|fun⟨i,f,hf,hb,hs⟩=>?_,CF (z.fit _ x) K⟩;exact (h.h.fr i f hf).s2 hs t<|by rw[BI,hb];exact y
def XkU {r:Ie} (h:S0 L N (Cb d r.t r.dm) cl<|CW wt r.t r.wt) (v:TI L.U N G) (y:ZR L.U r) (hm:L.may r.t):X5 N L r/\RdR L N d cl wt r.t (SH N L r):=by
 have Q:=y.a;rcases (by omega:r.at'=1\/r.at'=2\/r.at'=3\/r.at'=4\/r.at'=5) with e|e|e|e|e
 .have x:r.pin=false:=by rw[y.pn,e];rfl
  have l:r.wt=some (r.blk:Int):=pN e
  have B:r.dm r.blk=none:=by
   unfold Ie.dm;rw[pQ (by rw[x];intro e;cases e.1),pQ<|λm=>y.ne m.1 A1]
  refine⟨?_,?_⟩
  .unfold X5;rw[pN e];exact⟨y.u,by have:=v.bd _ y.u;omega⟩
  have q:SH N L r=((L.pin r.t r.blk).2,r.pinned (L.pin r.t r.blk).1,false):=by unfold SH;rw[pN e]
  rw[q];rw[l] at h;rcases h.pin hm B y.u with⟨w,f⟩|⟨w,f⟩|⟨w,f⟩
  .have m:r.pinned (L.pin r.t r.blk).1={r with at':=3,pin:=true}:=by unfold Ie.pinned;rw[pN w]
   rw[m];refine⟨Pp _ _ _,rfl,?_⟩;rw[pQ A3];exact⟨f.dm<|Ie.Ws (r':={r with at':=3,pin:=true}) I I I I I,A3,rfl,y.u,A3,A3,y.ne⟩
  .have m:r.pinned (L.pin r.t r.blk).1={r with at':=2,pin:=true}:=by unfold Ie.pinned;rw[pQ A1,pN w]
   rw[m];refine⟨Pp _ _ _,rfl,?_⟩;rw[pQ A3];exact⟨f.dm<|Ie.Ws (r':={r with at':=2,pin:=true}) I I I I I,A3,rfl,y.u,A3,A3,y.ne⟩
  have m:r.pinned (L.pin r.t r.blk).1=r:=by unfold Ie.pinned;rw[pQ A1,pQ A1]
  rw[m];refine⟨Pp _ _ _,rfl,?_⟩;rw[pQ A3];exact⟨by rw[l];exact f,y⟩
 .have x:r.pin=true:=by rw[y.pn,e];rfl
  have l:r.wt=none:=pQ A1;have g:r.dm r.blk=some .ld:=oK;refine⟨?_,?_⟩
  .unfold X5;rw[pQ A1,pN e];exact Xde h v g
  have q:SH N L r=(L.load r.blk<|N r.blk,{r with at':=3},false):=by unfold SH;simp[e]
  rw[q];rw[l] at h;have f:=h.load g;refine⟨rfl,rfl,?_⟩;rw[pQ A3];exact⟨f.dm<|Ie.Ws (r':={r with at':=3}) I x I I I,A3,by simp[x],y.u,A3,A3,y.ne⟩
 .have x:r.pin=true:=by rw[y.pn,e];rfl
  have l:r.wt=none:=pQ A1;have g:r.dm r.blk=some .pn:=oK;refine⟨?_,?_⟩
  .unfold X5;rw[pQ A1,pQ A1,pN e];exact h.h.Ti.2<|h.h.fM (by rw[BI];exact g) hm
  have q:SH N L r=(L.take (L.fi r.blk) r.t false,if r.UZ=true then {r with at':=4} else {r with at':=5},false):=by unfold SH;simp[e]
  rw[q];rw[l] at h;have f:=h.take g hm false;refine⟨rfl,by dsimp only;split<;>rfl,?_⟩;rw[pQ A3];dsimp only;split
  .rename_i z;exact⟨f.dm<|Ie.Ws (r':={r with at':=4}) I x I I I,A3,by simp[x],y.u,λ_=>z,A3,y.ne⟩
  rename_i z;exact⟨f.dm<|Ie.Ws (r':={r with at':=5}) I x I I I,A3,by simp[x],y.u,A3,λ_=>jc,y.ne⟩
 .have x:r.pin=true:=by rw[y.pn,e];rfl
  have l:r.wt=none:=pQ A1;have z:=y.a4 e;have J:=y.ne z;have g:r.dm r.par=some .rd:=by rw[Ie.ZB A1,pN ⟨z,rfl⟩]
  have i:=h.h.rdr (t:=r.t) (b:=r.par)<|by rw[BI];exact g
  refine⟨?_,?_⟩
  .unfold X5;rw[pQ A1,pQ A1,pQ A1,pN e];exact i
  have q:SH N L r=(L.leave (L.fi r.par) r.t r.par,{r with at':=5,UZ:=false},false):=by unfold SH;simp[e]
  rw[q];rw[l] at h;have f:=h.leave g A2 A2;refine⟨rfl,rfl,?_⟩;rw[pQ A3];refine⟨f.dm<|λb=>?_,A3,by simp[x],y.u,A3,λ_=>rfl,λe=>zZ⟩;unfold Ie.dm;by_cases hb:b=r.blk
  .have C:¬(r.blk:Int)=r.par:=by omega
   simp[hb,x,e,C]
  by_cases hb2:b=r.par
  .have C:¬(r.par:Int)=r.blk:=by omega
   simp[hb2,C]
  simp[hb,hb2]
 have x:r.pin=true:=by rw[y.pn,e];rfl
 have l:r.wt=none:=pQ A1;have z:=y.a5 e;have g:r.dm r.blk=some .rq:=oK;have i:=h.h.rq (t:=r.t) (b:=r.blk) (by rw[BI];exact g) hm;have F:=h.h.Ti.1 i.1;have s:=(h.no F).2;have D:=v.fit _ y.u
 have j:(∃n:Nat,(N r.blk).kids[EL (N r.blk).piv r.k]?=some (n:Int)/\Bt Ms.key (N r.blk).msgs)\/((N r.blk).kids=[]/\Dl (N r.blk).es):=by
  cases hl:(N r.blk).leaf with
  |true=>exact .inr ⟨(Fi D hl).1,(H3 D hl).r⟩
  |false =>
   have E:=Cx D hl;have O:=L9 (N r.blk).piv r.k;obtain⟨k,o⟩:∃k,(N r.blk).kids[EL (N r.blk).piv r.k]?=some k:=⟨_,pE (by have:=E.2.2.2.2.1.2.2;omega)⟩
   obtain⟨c,M,_⟩:=v.kid _ y.u _ k o;exact .inl ⟨c,by rw[<-M];exact o,E.2.2.2.2.2.1⟩
 refine⟨?_,?_⟩
 .unfold X5;rw[pQ A1,pQ A1,pQ A1,pQ A1,s];exact⟨e,i.1,j.imp id<|λh=>⟨h.1,h.2,i.2⟩⟩
 unfold SH;rw[pQ (show ¬r.at'=1 by omega),pQ (show ¬r.at'=2 by omega),pQ (show ¬r.at'=3 by omega),pQ (show ¬r.at'=4 by omega),s];rw[l] at h;rcases j with⟨n,o,_⟩|⟨o,_⟩
 .rw[o];obtain⟨K,P,R,H,_⟩:=v.YX y.u o;have p:=r.Xjn (N r.blk).msgs;dsimp only;rw[rD];have A:=h.up g A2 A2 (m':=.rd) A2 A2<|PS.Xdt (by have:=h.h.ah (t:=r.t) (b:=r.blk) (QP.1 (Fh hm).1).1 F;rw[BI,g] at this;exact this)<|(Fh hm).2.2 _;refine⟨rfl,by unfold Ie.down;exact p.1,?_⟩;rw[pQ A3];refine⟨(A.Tj<|some (n:Int)).dm<|λb=>?_,⟨oz,by unfold Ie.down;rfl,by unfold Ie.down;exact K,oz,oz,λ_=>?_⟩⟩
  .unfold Ie.down Ie.dm;dsimp only;rw[p.2.2.1,z];by_cases hb:b=r.blk<;>simp[hb]
  unfold Ie.down;dsimp only;rw[p.2.2.1];intro m;rw[m] at H;omega
 rw[o];have f:=h.leave g A2 A2;refine⟨rfl,rfl,?_⟩;rw[pN<|by rfl];refine f.dm<|λb=>?_
 by_cases hb:b=r.blk
 .rw[pN hb]
 rw[pQ hb,Ie.ZB hb,z,pQ<|by rintro⟨e,_⟩;cases e]
end
def Wx.dm (v:Wx) (b:Int):cU:=match v.r with
 |some r=>r.dm b
 |none=>if b=0 then (if v.a=1 then some .ld else if v.a=2 then some .pn else if v.a=3 then some .wq else none) else none
def Wx.wt (v:Wx):cf:=match v.r with
 |some r=>r.wt
 |none=>if v.a=0 then some 0 else none
def Wx.cl (v:Wx):Nat:=match v.r with
 |some r=>r.cl
 |none=>0
def VH (N:Nat->Nd) (v:Wx):Prop:=v=⟨0,false,none,0⟩\/v=⟨1,true,none,0⟩\/v=⟨2,true,none,0⟩\/v=⟨3,true,none,0⟩\/∃r,v=⟨4,true,some r,0⟩/\Rt N r/\r.keep=true