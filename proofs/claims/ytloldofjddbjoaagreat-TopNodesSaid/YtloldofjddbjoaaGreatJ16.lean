/- Part 16. -/
import Derived.Test.YtloldofjddbjoaaGreatJ15
set_option linter.all false
set_option maxHeartbeats 8000000
set_option maxRecDepth 100000
namespace Go.Proofs.YtloldofjddbjoaaGreat
open Go.Sep Go.RowKit Tryz
variable {M:Mo} {t b t' b':Int} {B k i:Nat} {f y:Vw} {α:Type} {w w0:d7} {x:HQ} {a:Ms} {z:HC} {m:HM} {s:OH} {H:ci} {vs:List Sv} {ls:List (cv)} {D:bm} {v vo:d0} {nv:NV} {N:Nat->Nd}
def Xik (h:M.Ok B) {l:bo} (z:l.length=M.fr.length) {hd:Int} (k:(Lit.int .i64 hd).wf):({M with fr:=Mo.SI M.fr l,hand:=hd}:Mo).Ok B:=by
 have hm:∀f∈Mo.SI M.fr l,∃g∈M.fr,∃b,f={g with ref:=b}:=λf x=>by
  obtain⟨p,c,rfl⟩:=qj.1 x;exact⟨p.1,(List.of_mem_zip c).1,p.2,rfl⟩
 have y:=Fg z;refine⟨by show 1<=(Mo.SI M.fr l).length;rw[Hi z];exact h.n1,by show (Mo.SI M.fr l).length<=_;rw[Hi z];exact h.n64,λf x=>?_,λf x=>?_,λf x=>?_,λf x=>?_,λf x=>?_,λf x=>?_,λi j f g hi hj x a e=>?_,h.ll,h.lB,h.ln,h.lb,λq m=>?_,λf x=>?_,k,h.B9⟩
 .obtain⟨g,y,b,rfl⟩:=hm f x;exact h.st g y
 .obtain⟨g,y,b,rfl⟩:=hm f x;exact h.none' g y
 .obtain⟨g,y,b,rfl⟩:=hm f x;exact h.blk g y
 .obtain⟨g,y,b,rfl⟩:=hm f x;exact h.own g y
 .obtain⟨g,y,b,rfl⟩:=hm f x;exact h.XL g y
 .obtain⟨g,y,b,rfl⟩:=hm f x;exact h.pins g y
 .rw[show ({M with fr:=Mo.SI M.fr l,hand:=hd}:Mo).fr=Mo.SI M.fr l from rfl,y,rv] at hi hj;obtain⟨f',hi,rfl⟩:=hi;obtain⟨o,hj,rfl⟩:=hj;exact h.uni i j f' o hi hj x a e
 .obtain⟨f,x,n,d⟩:=h.lo q m;obtain⟨i,hi⟩:=tj.1 x;exact⟨{f with ref:=l.getD i false},ry (show (Mo.SI M.fr l)[i]?=some _ from by rw[y,hi];rfl),n,d⟩
 obtain⟨g,y,b,rfl⟩:=hm f x;exact h.es g y
def Xil (h:M.Ok B):M.OT.2.Ok B:=by
 cases hs:(OV M.can M.Ov M.hand).1 with
 |none=>rw[Gk hs];exact h
 |some k =>
  obtain⟨y,a,z,f⟩:=kR h hs;rw[ED hs a];have x:=QM h;have d:M.can.length=M.fr.length:=qY ..;have b:=Xik h x<|fW hs (by have:=h.n64;omega);have c:(Mo.SI M.fr (OV M.can M.Ov M.hand).2)[k]?=some {y with ref:=(OV M.can M.Ov M.hand).2.getD k false}:=by rw[Fg x,a];rfl
  exact KR (M:={M with fr:=Mo.SI M.fr (OV M.can M.Ov M.hand).2,hand:=VP M.can M.Ov M.hand}) b (y':=Cy) c VY XA (λe=>xD) (λe=>zZ) XA ⟨K,bW⟩ (λe=>xD) (λq _ e=>by rw[show y.st=1 from e] at z;cases z) ⟨K,K,K,K⟩
def XgD (h:M.Ok B):M.OT.2.fr.length=M.fr.length:=by
 cases hs:(OV M.can M.Ov M.hand).1 with
 |none=>rw[Gk hs]
 |some k =>
  obtain⟨y,x,_⟩:=kR h hs;rw[ED hs x];show ((Mo.SI M.fr _).set k Cy).length=_
  rw[sI,Hi<|QM h]
def XcJ (h:x.Ok B):Df prog 89 [BM x.bc] Tr x.H (λr:Q×NV=>evV x.q.M.OT.1 r.2) (λr=>r.1.M=x.q.M.OT.2/\(x.OY r.1).Ok B/\U0 r.1.G r.2/\∀f,x.q.M.OT.1=some f->r.2.d=f.nd) (λr=>(x.OY r.1).H) :=
 HQ.lift (A:=[]) (A':=λ_:Q×NV=>[]) (XfI h.q.rel h.q.ok) oY (λr=>((⟨r.1,x.q.M.OT.2,x.q.G⟩:Q),r.2)) Prod.fst<|λr y=>⟨rfl,⟨rfl,h.OY ⟨y.1,Xil h.q.ok,(y.2.1 _ h.q.nin).1⟩ (qb B)<|XgD h.q.ok,(y.2.1 _ h.q.nin).2,y.2.2⟩,sU _⟩
def Pd:∀{rs G:ci},(∀r∈rs,r∈G)->rs.Nodup->∃z,G.Perm (rs++z)
 |[],G,_,_=>⟨G,sU _⟩
 |r::rs,G,hin,hn=>by
  obtain⟨A,B,rfl⟩:=List.append_of_mem<|hin r<|rW ..
  have y:=ss.1 hn
  obtain⟨z,b⟩:=Pd (rs:=rs) (G:=A++B) (λx a=>by
   rcases rB.1 (hin x<|sr _ a) with h|h
   .exact qh _ h
   .exact sw _<|(pj.1 h).resolve_left<|λe=>y.1<|e▸a) y.2
  exact⟨z,sQ.trans<|b.cons r⟩
def St.fill:∀{rs H:ci},(∀r∈rs,r.b=none->r.at w)->St w0 D (rs.filter (λr=>r.b.isSome)++H) w->St w0 D (rs++H) w
 |[],H,_,h=>h
 |r::rs,H,hn,h=>by
  have y:=λx z=>hn x<|sr r z
  cases hb:r.b with
  |none =>
   rw[List.filter_cons_of_neg<|by rw[hb];decide] at h
   exact (St.fill y h).add hb (hn r (rW ..) hb)
  |some k =>
   rw[List.filter_cons_of_pos<|by rw[hb];rfl] at h
   exact (St.fill (H:=r::H) y<|h.perm sQ.symm).perm sQ
def St.XlO {rs:ci} (h:St w0 D (rs++H) w):St w0 D (rs.filter (λr=>r.b.isSome)++H) w:=h.sublist<|List.Sublist.append_right List.filter_sublist _
def bX {t:d4} {E:Enc α} {l:List α} (h:(AG v t E l).at w) (z:(AG v t E l).b=some k):∃cs,w.heap[k]?=some (.cells cs t (0,0)):=by
 have x:Dv v=some k:=z;have y:Row v t E l ((Dv v).bind (w.heap[·]?)):=h;rw[x] at y;rcases y with⟨a,rfl,_⟩|⟨_,_,_,_,_,_,c,_⟩
 .cases a<;>simp[Dv] at x
 exact⟨_,c⟩
def SZ (h:∀r∈Bo nv,r.at w):((Bo nv).filter<|λr=>r.b.isSome).Nodup:=by
 have C:(Bo nv).Pairwise (λa b=>∀k,a.b=some k->b.b=some k->False):=by
  have g:=h (Ct nv.s.e nv.d.es) A3;have c:=h (CT nv.s.k nv.d.kids) A3;have f:=h (CU nv.s.p nv.d.piv) A3;have j:=h (C5 nv.s.m nv.d.msgs) A3
  have y:∀{α β:Type} {v u:d0} {s t:d4} {E:Enc α} {F:Enc β} {l:List α} {m:List β},(AG v s E l).at w->(AG u t F m).at w->s≠t->∀k,(AG v s E l).b=some k->(AG u t F m).b=some k->False:=λB A n k q J=>by
   obtain⟨L,H⟩:=bX B q;obtain⟨K,i⟩:=bX A J;rw[H] at i;injection i with i;injection i with _ e3;exact n e3
  refine tQ.2 ⟨λb z=>?_,tQ.2 ⟨λb z=>?_,tQ.2 ⟨λb z=>?_,List.pairwise_singleton _ _⟩⟩⟩
  .simp only[pj,rX,rY] at z;rcases z with rfl|rfl|rfl
   .exact y g c A2
   .exact y g f A2
   exact y g j A2
  .simp only[pj,rX,rY] at z;rcases z with rfl|rfl
   .exact y c f A2
   exact y c j A2
  simp only[pj,rX,rY] at z;subst z;exact y f j A2
 have G:∀{l:ci},l.Pairwise (λa b=>∀k,a.b=some k->b.b=some k->False)->(∀r∈l,r.b.isSome=true)->l.Nodup:=by
  intro l
  induction l with
  |nil=>intro _ _;exact sh
  |cons r l ih =>
   intro g c;have f:=tQ.1 g;refine ss.2 ⟨λhm=>?_,ih f.2<|λx y=>c x<|sr _ y⟩;obtain⟨k,o⟩:=Option.isSome_iff_exists.1<|c r<|rW ..;exact f.1 r hm k o o
 exact G (C.sublist List.filter_sublist)<|λr D=>by simpa using (tc.1 D).2
def Xk6 {G:ci} (z:U0 G nv) (a:HP H w) (c:∀e∈G,e∈H):∀r∈Bo nv,r.at w/\(r.b=none\/r∈G):=λr d=>by
 have x:∀{α:Type} {t:d4} {E:Enc α},(AG sv0.v t E ([]:List α)).at w/\(AG sv0.v t E ([]:List α)).b=none:=⟨.inl ⟨none,rfl,rfl⟩,rfl⟩
 simp only[pj,rX,rY] at d
 rcases d with rfl|rfl|rfl|rfl
 .rcases z.e with⟨h,y⟩|h
  .rw[h,y];exact kG
  .exact kD
 .rcases z.k with⟨h,y⟩|h
  .rw[h,y];exact kG
  .exact kD
 .rcases z.p with⟨h,y⟩|h
  .rw[h,y];exact kG
  .exact kD
 .rcases z.m with⟨h,y⟩|h
  .rw[h,y];exact kG
  .exact kD
def Xi9 (A:x.s.Ok) {k:Nat} (t:x.s.us[k]?=some true) {bk:Bk} (B:x.s.bl[k]?=some bk) {nv:NV} (a:BJ nv.d) (g:(RH nv.d).length<=248) (C:U0 x.q.G nv):Df prog 90 [BM x.bh,aa (k:Int),.agg nv.c.toArray] Tr x.H (λ_:Unit=>.tuple #[]) Tr (λ_=>(x.RI<|x.s.put k<|WO nv.d g).H):=λw _ o=>by
 have n:=GJ a
 have u:∀e∈x.q.G,e∈x.H:=λe v=>by
  show e∈x.rest++(x.q.S.H x.bc++x.q.G)
  exact sw _<|sw _ v
 have y:=Xk6 C o u
 obtain⟨j,m⟩:=Pd (rs:=(Bo nv).filter<|λr=>r.b.isSome) (G:=x.q.G) (λr f=>by
  obtain⟨l,i⟩:=tc.1 f
  rcases (y r l).2 with z|z
  .rw[z] at i;cases i
  .exact z)<|SZ<|λr f=>(y r f).1
 have h:∀s':OH,((x.RI s').H).Perm ((Bo nv).filter (λr=>r.b.isSome)++(({x with q:={x.q with G:=j}}:HQ).RI s').H):=λs'=>by
  show ((x.RI s').rest++(x.q.S.H x.bc++x.q.G)).Perm (_++((x.RI s').rest++(x.q.S.H x.bc++j)))
  refine (((m.append_left _).append_left _).trans<|List.Perm.trans ?_<|tS _ _ _)
  exact (tS _ _ _).append_left _
 have s:=XiX (x:=({x with q:={x.q with G:=j}}:HQ)) A t B (nv:=nv) a n.nk g n.sm
 have p:St w (dom x.H) x.H w:=St.init o
 have l:St w (dom x.H) (Bo nv++({x with q:={x.q with G:=j}}:HQ).H) w:=St.fill (λr f _=>(y r f).1)<|p.perm<|h x.s
 refine (s.frame (w0:=w) (D:=dom x.H) (F:=[]) (by rw[sG];exact l) trivial).mono<|λe w' ⟨b,i,_,z⟩=>⟨(),i,T0,?_⟩
 rw[sG] at z
 exact (St.XlO z).perm (h _).symm
def EZ (L:Hm):Hm:=match L.M.OT.1 with
 |none=>L
 |some f=>{L with M:=L.M.OT.2,s:=if h:(RH f.nd).length<=248 then (if f.dirty=true then L.s.put f.blk.toNat (WO f.nd h) else L.s) else L.s}
def bG (L:Hm):Prop:=∀f,L.M.OT.1=some f->0<=f.blk/\L.s.us[f.blk.toNat]?=some true/\BJ f.nd=true
def Xga (h:x.Ok B) (y:x.q.M.OT.1=none):Df prog 89 [BM x.bc] Tr x.H (λ_:Q×NV=>.tuple #[aa 0,.agg NZ.c.toArray,.bool false,.bool false]) (λr=>(x.OY r.1).Ok B/\(x.OY r.1).hm=x.hm) (λr=>(x.OY r.1).H):=λw z a =>
 (XcJ h w z a).mono<|λe w' ⟨r,h1,h2,h3⟩=>⟨r,by rw[h1,y];rfl,⟨h2.2.1,by
  have b:x.q.M.OT.2=x.q.M:=by
   unfold Mo.OT at y ⊢;split at y
   .rfl
   cases y
  show (⟨r.1.M,x.s,x.lt.map LC.m,x.rd⟩:Hm)=_
  rw[h2.1,b];rfl⟩,h3⟩
def Xae (h:x.Ok B) {f:Vw} (y:x.q.M.OT.1=some f) {k:Nat} (i:f.blk=(k:Int)) {a:Bool} (z:f.dirty=a):Df prog 89 [BM x.bc] Tr x.H (λr:Q×NV=>.tuple #[aa (k:Int),.agg r.2.c.toArray,.bool a,.bool true]) (λr=>(x.OY r.1).Ok B/\(x.OY r.1).hm={x.hm with M:=x.hm.M.OT.2}/\U0 r.1.G r.2/\r.2.d=f.nd) (λr=>(x.OY r.1).H):=λw b g =>
 (XcJ h w b g).mono<|λe w' ⟨r,h1,h2,h3⟩=>⟨r,by rw[h1,y,<-i,<-z];rfl,⟨h2.2.1,by
  show (⟨r.1.M,x.s,x.lt.map LC.m,x.rd⟩:Hm)=_
  rw[h2.1];rfl,h2.2.2.1,h2.2.2.2 f y⟩,h3⟩
def X1 {d e:Nd} (h:d=e) (a:(RH d).length<=248) (b:(RH e).length<=248):WO d a=WO e b:=by subst h;rfl
def Xkp {x:HQ} {B:Nat} (h:x.Ok B) (p:bG x.hm):Df prog 41 [BM x.bh] Tr (x.H) (λy:HQ=>.tuple #[aa (match x.hm.M.OT.1 with|none=>0|some f=>f.blk),.bool x.hm.M.OT.1.isSome]) (λy=>y.bh=x.bh/\y.Ok B/\y.hm=EZ x.hm) (λy=>y.H):=by
 intro w v t;refine Ey func41 I t<|Y I<|Nh I<|A I<|Y I<|C 2 I<|EJ Pz I SS I<|Lo TW 0 I ?_;rcases hev:x.q.M.OT.1 with _|f
 .refine Z I (Ee [] (Xga h hev) I call89 Tt ?_);rintro r ⟨e,j⟩;refine Pw (St _ _<|HQ.H<|x.OY r.1) ?_;exact C 5 I<|Z I<|Ax I I I zeroValue135<|λn=>Ce NZ.c I<|Nh I<|Z I<|SW AK I Nc<|Nh I<|A I<|E<|Y I<|Lm I<|G<|Ab I<|Ah<|Kt<|Y I<|C 3 I<|A I<|Al<|Ae<|Bw (rs:=[.tmp 2,.tmp 3]) I I<|λ_ i=>⟨x.OY r.1,by rw[show x.hm.M.OT.1=none from hev];rfl,⟨rfl,e,by rw[j];unfold EZ;rw[show x.hm.M.OT.1=none from hev]⟩,i⟩
 obtain⟨u,m,g⟩:=p f hev;obtain⟨k,z⟩:∃k:Nat,f.blk=(k:Int):=⟨f.blk.toNat,J⟩
 rw[z,rD] at m;have a:=(GJ g).len;have b:x.hm.M.OT.1=some f:=hev;rcases hdt:f.dirty with _|_
 .refine Z I (Ee [] (Xae h hev z hdt) I call89 Tt ?_);rintro⟨q,nv⟩ ⟨e,j,o,hd⟩;refine jY ?_;refine C 5 I ?_;have hd:nv.d=f.nd:=hd;exact Z I<|Ax I I I zeroValue135<|λn=>Ce NZ.c I<|Nh I<|Z I<|SW AK I Nc<|Nh I<|A I<|E<|Y I<|Lm I<|G<|Ab I<|Ah<|Kt<|Y I<|C 3 I<|A I<|Al<|Ae<|Bw (rs:=[.tmp 2,.tmp 3]) I I<|λ_ i=>⟨x.OY q,by rw[b];dsimp only;rw[z];rfl,⟨rfl,e,by rw[j];unfold EZ;rw[b];dsimp only;rw[dif_pos a,pQ<|by rw[hdt];decide]⟩,i⟩
 refine Z I (Ee [] (Xae h hev z hdt) I call89 Tt ?_);rintro⟨q,nv⟩ ⟨e,j,o,hd⟩;refine jY ?_;refine C 5 I ?_;have hd:nv.d=f.nd:=hd;refine Z I<|Ax I I I zeroValue135<|λn=>Ce NZ.c I<|Nh I<|Z I<|SW AK I Nc<|Nh I<|A I<|E<|Y I<|Lm I<|G<|Am I<|Cr I<|C 2 I<|U I hG ?_
 obtain⟨bk,l⟩:=e.bk m;refine Z I<|Ee [_] (Xi9 e.s m l (nv:=nv) (by rw[hd];exact g) (by rw[hd];exact a) o) I call90 Tt<|λ_ _=>Pre.world (St _ _<|_::HQ.H ((x.OY q).RI<|x.s.put k<|WO nv.d<|by rw[hd];exact a)) Ih ?_
 exact G<|Y I<|C 3 I<|A I<|Al<|Ae<|Bw (rs:=[.tmp 2,.tmp 3]) I I<|λ_ i=>⟨(x.OY q).RI<|x.s.put k<|WO nv.d<|by rw[hd];exact a,by rw[b];dsimp only;rw[z];rfl,⟨rfl,e.RI<|e.s.put _ _,by show ({(x.OY q).hm with s:=_}:Hm)=_;rw[j];unfold EZ;rw[b];dsimp only;rw[dif_pos a,pN hdt,z,rD,X1 hd _ a];rfl⟩,i⟩
def HM.OT (m:HM):HM:={m with L:=EZ m.L}
def HM.task (N:Nat->Nd) (m:HM) (i:Nat):HM:=if i<m.cs.length then m.client N i else if i<m.cs.length+m.fs.length then m.flush N (i-m.cs.length) else m.OT
def HM.took (m:HM) (p:Int):HM:={m with T:=Sc.oW m.T p,pk:=m.pk+1}
def HM.does (N:Nat->Nd) (m:HM) (p:Int):HM:=(m.took p).task N<|Sc.Og m.T p
def DY (N:Nat->Nd) (m:HM) (p:Int):HM:=if Sc.oZ m.T=[] then m else (m.does N p).Sr (oV N (m.does N p) (m.does N p).T.n (m.does N p).T)
def bY (N:Nat->Nd) (m:HM) (t:Nat):Prop :=
 (∃c,m.cs[t]?=some c/\Uo N (t:Int) m.sq m.L c/\(c.ph.Xx=false->m.L.may (t:Int)=true)) \/
 (∃f,m.cs.length<=t/\m.fs[t-m.cs.length]?=some f/\m.L.may (t:Int)=true/\bI N m.L (t:Int) f)\/(t=m.cs.length+m.fs.length/\bG m.L)
def O9.Xjo (k:O9 z m B) {i:Nat} {f:Fl} (h:m.fs[i]?=some f):∃c,z.fl[i]?=some c/\c.m=f:=by
 rw[<-k.fs,qq] at h;cases hx:z.fl[i]? with
 |none=>rw[hx] at h;cases h
 |some c=>rw[hx] at h;exact⟨c,rfl,by cases h;rfl⟩
def O9.OT (k:O9 z m B) {y:HQ} (h:GH y (EZ m.L) B):O9 {z with x:=y} m.OT B:=⟨h,k.cs,k.fs,k.tn,k.tok,k.n8,k.ol,k.ng,k.ev,k.sq,k.pk⟩
def VV (a b c d:Nr) (C F X:ci):(a::b::c::d::(C++(F++X))).Perm (X++(a::c::b::d::(C++F))):=by
 refine (QH a b c d _).trans ?_;rw[<-qQ];exact sV (l₁:=a::c::b::d::(C++F)) (l₂:=X)
def Xfo {z:HC} {m:HM} {B:Nat} (k:O9 z m B) (c:bG m.L):Df prog 41 [BM z.x.bh] Tr (z.H m) (λ_:HC=>.tuple #[aa (match m.L.M.OT.1 with|none=>0|some f=>f.blk),.bool m.L.M.OT.1.isSome])
 (λh=>h.bH=z.bH/\h.bt=z.bt/\O9 h m.OT B) (λh=>h.H m.OT):=by
 have s:=Xkp k.lh.ok<|by rw[k.lh.hm];exact c
 rw[k.lh.hm] at s;have b:(z.H m).Perm (z.x.H++(OZ z.bH (BM z.x.bh) z.bt z.vT z.vO z.vE m.sq m.pk::AG z.vT 102 Tk.enc z.tks::AG z.vE 71 O1.enc m.ev::Ac z.bt 171 (Sc.o4 m.T)::(RD 0 z.cc++Qa z.cc.length z.fl))):=VV _ _ _ _ _ _ _;refine Df.pack _ s b oY (λy=>{z with x:=y})<|λy a=>⟨rfl,⟨rfl,rfl,k.OT ⟨a.2.1,a.2.2⟩⟩,[],?_⟩
 rw[sG]
 have e:({z with x:=y}:HC).H m.OT=OZ z.bH (BM z.x.bh) z.bt z.vT z.vO z.vE m.sq m.pk::AG z.vE 71 O1.enc m.ev::AG z.vT 102 Tk.enc z.tks::Ac z.bt 171 (Sc.o4 m.T)::(RD 0 z.cc++(Qa z.cc.length z.fl++y.H)):=by
  show OZ z.bH (BM y.bh) z.bt z.vT z.vO z.vE m.sq m.pk::_=_
  rw[a.1];rfl
 rw[e];exact (VV _ _ _ _ _ _ _).symm
def IM (N:Nat->Nd) (k:O9 z m B) (U:B+2<=60000) (D:m.pk<20000) (O:∀t∈Sc.oZ m.T,bY N m t) (p:Int) (r:Ui N (DY N m p).L):Df prog 13 [BM z.bH,aa p] Tr (z.H m) (λy:HC=>(if Sc.oZ m.T=[] then .tuple #[aa 0,.bool false] else .tuple #[aa (Sc.Og m.T p:Int),.bool true])) (λy=>y.bH=z.bH/\O9 y (DY N m p) (B+2)) (λy=>y.H<|DY N m p):=by
 intro w hE Y;have h2:=k.fV;have h8:m.T.n<=8:=xY;refine Ey func13 I Y<|Cs I<|Nh I<|Ak I<|Ad<|Cs I<|Mv 2 I<|EJ Cz I Z3 I<|Lo G3 0 I<|Lq I (Qg I)<|Nk<|Sf 15 I A1<|Ab I<|Ah<|Kt<|Cs I<|Mv 2 I<|EJ Cz I Xf I<|Lo Yd 0 I<|Lm I<|BP<|LW I<|Bp (Sc.XlE k.tok (by have:=k.lh.ok.b9;omega) z.bt p) I I I call38 I Tt<|λ_ _=>Lm I<|Mv 3 I<|Ak I<|Ad<|Cs I<|Mv 2 I<|Nk<|Pm [1,1,1] I<|Pre.PY 26 I (λq=>?_)<|λq=>?_
 .try simp only[rV,Bool.not_eq_false',rA,rI,ne_eq,Decidable.not_not] at q
  have a:DY N m p=m:=by unfold DY;rw[pN jJ]
  have D:Sc.oW m.T p=m.T:=by unfold Sc.oW;rw[pN jJ]
  exact Am I<|Cs I<|Nh I<|Ak I<|Al<|Ag<|Bw (rs:=[.tmp 4,.tmp 5]) I I<|λ_ h=>⟨z,by rw[pN jJ],⟨rfl,by rw[a];exact k.mono A1 U⟩,by rw[a];rw[D] at h;exact h⟩
 try simp only[rV,Bool.not_eq_false',rA,rI,ne_eq,Decidable.not_not] at q
 have j:Sc.oZ m.T≠[]:=jJ;have O:=O _<|Sc.lJ p j;have P:O9 z (m.took p) (B+1):=k.pick U p;have a:DY N m p=(m.does N p).Sr (oV N (m.does N p) (m.does N p).T.n (m.does N p).T):=by unfold DY;rw[pQ j]
 rw[a] at r;rcases O with⟨cl,C,E,i⟩|⟨fl,h1,F,i,Q⟩|⟨X,J⟩
 .obtain⟨c,S,R⟩:=k.get C;subst R;have l:z.tks[Sc.Og m.T p]?=some (Tk.c c.b):=by unfold HC.tks;rw[pL (by simpa using (qp.1 S).1),qq,S];rfl
  have hd:m.does N p=(m.took p).client N (Sc.Og m.T p):=by unfold HM.does HM.task;rw[pN<|show (Sc.Og m.T p)<(m.took p).cs.length from (qp.1 C).1]
  have s:=(qp.1 l).1;rw[hd] at a r;refine Ab I<|Ah<|Kt<|Cs I<|Mv 2 I<|EJ Cz I Z3 I<|Lo G3 0 I<|Lq I (Qi I)<|Lc I<|EJ Cz I Z3 I<|LW I<|AB I I Z3 I I I (rO I)<|Ce [BM z.x.bh,BM z.bt,z.vT,z.vO,z.vE,am m.sq,aa ((m.pk+1:Nat):Int)] I<|Ns<|Cs I<|Mv 2 I<|EJ Cz I Tc I<|Lo VE 0 I<|Lm I<|Lq I (Aw (Sc.Og m.T p) I Ur Im I ue I I)<|Lq I (AO (Sc.Og m.T p) 0 I JV I I ue l I)<|Nk ?_;refine Af<|Cs I<|Lq rfl (Cj rfl JD uQ rfl) (Mv 2 I<|Nk<|Am I<|Cs I<|Ak I<|Cr I<|Mv 3 I<|Pw (St _ _<|HC.H z<|m.took p) ?_);refine LW I<|Ee [] (Xe4 N (m:=m.took p) P A1 (by have:=k.ev;show m.ev.length+1<=B+1;omega) S i E) I call39 Tt ?_;rintro y ⟨g,u,d⟩;refine Pw (St _ _<|HC.H y<|(m.took p).client N<|Sc.Og m.T p) ?_;refine AE<|Au<|Kt<|Cs I<|Lm I<|LH 66 (BM y.bH) I WL<|LW I<|Ee [] (VS d N r) I call42 Tt<|λ_ _=>Pw (St _ _<|HC.H y<|((m.took p).client N<|Sc.Og m.T p).Sr<|oV N ((m.took p).client N<|Sc.Og m.T p) ((m.took p).client N<|Sc.Og m.T p).T.n ((m.took p).client N<|Sc.Og m.T p).T) ?_
  exact vq
 .obtain⟨f,V,K⟩:=k.Xjo F;subst K;have o:=k.len;have M:=(qp.1 V).1;have W:=(qp.1 F).1;have l:z.tks[Sc.Og m.T p]?=some (Tk.f f.b):=by unfold HC.tks;rw[pO dN,qY,o,pL (by rw[qY];exact M),qq,V];rfl
  have hd:m.does N p=(m.took p).flush N ((Sc.Og m.T p)-m.cs.length):=by unfold HM.does HM.task;rw[pQ (show ¬(Sc.Og m.T p)<(m.took p).cs.length from by show ¬(Sc.Og m.T p)<m.cs.length;omega),pN<|show (Sc.Og m.T p)<(m.took p).cs.length+(m.took p).fs.length from by show (Sc.Og m.T p)<m.cs.length+m.fs.length;omega];rfl
  have A:((m.took p).cs.length+((Sc.Og m.T p)-m.cs.length):Nat)=(Sc.Og m.T p):=by show m.cs.length+((Sc.Og m.T p)-m.cs.length)=(Sc.Og m.T p);omega
  have s:=(qp.1 l).1;rw[hd] at a r;refine Ab I<|Ah<|Kt<|Cs I<|Mv 2 I<|EJ Cz I Z3 I<|Lo G3 0 I<|Lq I (Qi I)<|Lc I<|EJ Cz I Z3 I<|LW I<|AB I I Z3 I I I (rO I)<|Ce [BM z.x.bh,BM z.bt,z.vT,z.vO,z.vE,am m.sq,aa ((m.pk+1:Nat):Int)] I<|Ns<|Cs I<|Mv 2 I<|EJ Cz I Tc I<|Lo VE 0 I<|Lm I<|Lq I (Aw (Sc.Og m.T p) I Ur Im I ue I I)<|Lq I (AO (Sc.Og m.T p) 0 I JV I I ue l I)<|Nk ?_;refine Af<|Cs I<|Lq rfl (CJ rfl JD uQ rfl (by decide) zeroValue103) (Mv 2 I<|Nk<|Ab I<|Cs I<|Lq rfl (Cj rfl TJ uQ rfl) (Mv 2 I<|Nk<|Am I<|Cs I<|Pw (St _ _<|HC.H z<|m.took p) ?_));refine LW I<|Ax I I I zeroValue108<|λbq=>Ce [av] I<|LW I<|AF rfl rfl sizeOf108 rfl rfl rfl (by intro v G;simp at G;subst G;rfl) (rO rfl) (Ce [BM f.b] I<|Nk<|LZ (rg 7) 1458 _ I St.drawn Ih<|Ht TJ I sizeOf106 I<|Dq I (Aj I DZ I uP I)<|Md 2 I<|Ht Cz I Wi I<|Dq I (Aj I Vs I uq I)<|KC I<|Ee [_] (XfE N (m:=m.took p) P A1 V (by rw[A];exact i)<|by rw[A];exact Q) I call40 Tt ?_)
  rintro y ⟨g,u,d⟩;refine Pre.world (St _ _<|_::HC.H y ((m.took p).flush N<|(Sc.Og m.T p)-m.cs.length)) Ih ?_;refine AN<|Au<|Kt<|Cs I<|Lm I<|Ae<|LH 66 (BM y.bH) I WL<|LW I<|Ee [] (VS d N r) I call42 Tt<|λ_ _=>Pw (St _ _<|HC.H y<|((m.took p).flush N<|(Sc.Og m.T p)-m.cs.length).Sr<|oV N ((m.took p).flush N<|(Sc.Og m.T p)-m.cs.length) ((m.took p).flush N<|(Sc.Og m.T p)-m.cs.length).T.n ((m.took p).flush N<|(Sc.Og m.T p)-m.cs.length).T) ?_
  exact vq
 have o:=k.len;have Z:=k.nf;have l:z.tks[Sc.Og m.T p]?=some Tk.e:=by unfold HC.tks;rw[pO dN,qY,pO dN,qY,show (Sc.Og m.T p)-z.cc.length-z.fl.length=0 by omega];rfl
 have hd:m.does N p=(m.took p).OT:=by unfold HM.does HM.task;rw[pQ (show ¬(Sc.Og m.T p)<(m.took p).cs.length from by show ¬(Sc.Og m.T p)<m.cs.length;omega),pQ<|show ¬(Sc.Og m.T p)<(m.took p).cs.length+(m.took p).fs.length from by show ¬(Sc.Og m.T p)<m.cs.length+m.fs.length;omega]
 have s:=(qp.1 l).1;rw[hd] at a r;refine Ab I<|Ah<|Kt<|Cs I<|Mv 2 I<|EJ Cz I Z3 I<|Lo G3 0 I<|Lq I (Qi I)<|Lc I<|EJ Cz I Z3 I<|LW I<|AB I I Z3 I I I (rO I)<|Ce [BM z.x.bh,BM z.bt,z.vT,z.vO,z.vE,am m.sq,aa ((m.pk+1:Nat):Int)] I<|Ns<|Cs I<|Mv 2 I<|EJ Cz I Tc I<|Lo VE 0 I<|Lm I<|Lq I (Aw (Sc.Og m.T p) I Ur Im I ue I I)<|Lq I (AO (Sc.Og m.T p) 0 I JV I I ue l I)<|Nk ?_;refine Af<|Cs I<|Lq rfl (CJ rfl JD uQ rfl (by decide) zeroValue103) (Mv 2 I<|Nk<|Ab I<|Cs I<|Lq rfl (CJ rfl TJ uQ rfl (by decide) zeroValue108) (Mv 2 I<|Nk<|Ab I<|Cs I<|Lq rfl (Cj rfl underlying111 uQ rfl) (Mv 2 I<|Nk<|Am I<|Cs I<|Pw (St _ _<|HC.H z<|m.took p) ?_)));refine LW I<|Ax I I I zeroValue111<|λbq=>Ce [] I<|LW I<|SA sizeOf111 I (by intro v G;simp at G)<|Ce [] I<|Nk<|Cr I<|Mv 2 I<|EJ Cz I Wi I<|Lo Vs 1 I<|LW I<|Ee [_] (Xfo (m:=m.took p) P J) I call41 Tt ?_
 rintro y ⟨g,u,d⟩;refine Pre.world (St _ _<|_::HC.H y (m.took p).OT) Ih ?_;refine AE<|Au<|Kt<|Cs I<|Lm I ?_;have d:=d.mono (tC _) U;refine Ae<|LH 66 (BM y.bH) I WL<|LW I<|Ee [] (VS d N r) I call42 Tt<|λ_ _=>Pw (St _ _<|HC.H y<|(m.took p).OT.Sr<|oV N (m.took p).OT (m.took p).OT.T.n (m.took p).OT.T) ?_
 exact vq
def EY:Enc Sv:=⟨1,λs=>[s.v],λ_=>rfl,λa u h=>by simp at h;subst h;rfl,by decide⟩
structure Y5 (w:d7) (v:d0) (vs:List Sv) (ls:List (cv)):Prop where
 o:Ec w v EY vs
 len:vs.length=ls.length
 i:∀(i:Nat) (s:Sv) (l:cv),vs[i]?=some s->ls[i]?=some l->Ec w s.v Opn.enc l
def Y5.keep (h:Y5 w0 v vs ls) (s:St w0 [] H w):Y5 w v vs ls:=⟨h.o.keep s j,h.len,λi a l x y=>(h.i i a l x y).keep s j⟩
def WZ:List Sv->List (cv)->ci
 |s::vs,l::ls=>AG s.v 43 Opn.enc l::WZ vs ls
 |_,_=>[]
def S1:∀(vs:List Sv) (ls:List<|cv) (s:Sv) (l:cv),vs.length=ls.length->WZ (vs++[s]) (ls++[l])=WZ vs ls++[AG s.v 43 Opn.enc l]
 |[],[],_,_,_=>rfl
 |[],_::_,_,_,h=>yF
 |_::_,[],_,_,h=>yF
 |a::vs,b::ls,s,l,h=>by
  show AG a.v 43 Opn.enc b::WZ (vs++[s]) (ls++[l])=_
  rw[S1 vs ls s l sv];rfl
def Xim:∀(vs:List Sv) (ls:List<|cv) (i:Nat) (s:Sv) (l:cv),vs[i]?=some s->ls[i]?=some l->WZ (vs.drop i) (ls.drop i)=AG s.v 43 Opn.enc l::WZ (vs.drop<|i+1) (ls.drop<|i+1):=λvs ls i s l h x=>by
 obtain⟨a,rfl⟩:=qp.1 h
 obtain⟨b,rfl⟩:=qp.1 x
 rw[pC a,pC b];rfl
def S2:∀(k:Nat) (cc:List CC) (c:CC),RD k (cc++[c])=RD k cc++c.H ((k+cc.length:Nat):Int)
 |k,[],c=>by show c.H _++[]=_;rw[sG];rfl
 |k,a::cc,c=>by
  show a.H _++RD (k+1) (cc++[c])=_
  rw[S2 (k+1) cc c,pz,show k+1+cc.length=k+(cc.length+1) by omega,<-qQ];rfl
def S3:∀(k:Nat) (fl:List FM) (f:FM),Qa k (fl++[f])=Qa k fl++f.H ((k+fl.length:Nat):Int)
 |k,[],f=>by show f.H _++[]=_;rw[sG];rfl
 |k,a::fl,f=>by
  show a.H _++Qa (k+1) (fl++[f])=_
  rw[S3 (k+1) fl f,pz,show k+1+fl.length=k+(fl.length+1) by omega,<-qQ];rfl
def cc0 (b:Nat) (s:Sv) (l:cv):CC:=⟨b,s.v,0,0,⟨l,0,.idle⟩⟩
def X2 (p:ci) (cc:List CC) (b:Nat) (s:Sv) (l:cv) (R:ci):(p++(Oh b s.v 0 [av,av]::(RD 0 cc++(AG s.v 43 Opn.enc l::R)))).Perm (p++(RD 0 (cc++[cc0 b s l])++R)):=by
 rw[S2];refine List.Perm.append_left p ?_;rw[qQ];exact (tS [Oh b s.v 0 [av,av]] (RD 0 cc)<|AG s.v 43 Opn.enc l::R)
def Xgb (p:ci) (C:ci) (k:Nat) (fl:List FM) (b:Nat) (R:ci):(p++(TF b ((k+fl.length:Nat):Int) 1 false false av 0 0::(C++(Qa k fl++R)))).Perm (p++(C++(Qa k (fl++[⟨b,0,V6⟩])++R))):=by
 rw[S3];refine List.Perm.append_left p<|(tS [_] C<|Qa k fl++R).trans<|List.Perm.append_left C ?_;rw[qQ];exact tS [_] (Qa k fl) R
def Pe {l:List α} {a:α} (h:l[i]?=some a):l.take (i+1)=l.take i++[a]:=by rw[sH,h];rfl
def S4 {va:d0} (l:cv) (x:l.length<=65536):Df prog 104 [va] (λw=>Ec w va Opn.enc l) [] (λv:d0=>v) Tr (λv=>[AG v 43 Opn.enc l]):=by
 intro w z d;obtain⟨a,c,rfl⟩:=FK z;refine E0 func104 I d<|Y I<|A I<|E<|Y I<|r I<|U I (Hq I TM I I)<|G<|Pre.PY 4 I (λx=>?_)<|λx=>?_
 .rw[ti] at x;subst x;have y:=FQ z;subst y;exact Am I<|Y I<|A I<|Al<|Ag<|row0 43 Opn.enc none vI
 refine Ab I (Ah<|Kt<|Y I<|Z I<|As (sz:=4) [] I I I I I TM U7 I zeroValue43 I<|λb=>Sj Opn.enc [] I I<|r I<|Z I<|Ap TM TM MC I z.kp A8<|λv=>A I<|Al ?_);rw[qU];exact uc
def ga (t:vs.length<=8) (d:∀l∈ls,l.length<=1000):Df prog 51 [vo] (λw=>Y5 w vo vs ls) [] (λr:d0×List Sv=>r.1) (λr=>r.2.length=ls.length) (λr=>AG r.1 40 EY r.2::WZ r.2 ls):=by
 intro w y m;have f:=y.len;refine E0 func51 I m<|Y I<|A I<|Y I<|A I<|E<|Y I<|Lm I<|U I (AM I U6 I y.o.kp)<|Lm I<|G<|Af<|row0 40 EY none ?_;refine Fm (λ(i:Nat) (x:d0) (us:List Sv)=>[(0,vo),(3,x),(6,vo),(7,aa (vs.length:Int)),(8,aa (i:Int))]) (λ(i:Nat) (x:d0) (us:List Sv)=>St w []<|AG x 40 EY us::WZ us (ls.take i)) (λ(i:Nat) (x:d0) (us:List Sv)=>i<=vs.length/\us.length=i) (λ(i:Nat) (x:d0) (us:List Sv)=>vs.length-i) (0) C0 ([]) ⟨qc _,rfl⟩ (Si I) Ih<|λi x us k=>E ?_
 obtain⟨hi,a⟩:=k;refine Cr I<|U I (Ql I)<|Ns<|CB 9 I (λe=>?_)<|λe=>?_
 .obtain⟨s,g⟩:=gE vs i;obtain⟨l,c⟩:=gE ls i;have n:=d l<|ry c;have z:=Pe c;refine Am I<|Ah<|Ks<|Af<|Y I<|U I (Aw i I U6 UR I y.o.kp I I)<|U I (AO i 0 I XZ I I y.o.kp g I)<|A I<|Cr I<|C 2 I<|Z I<|AX (S4 l J) I I I call104 I (λ_ h=>(y.i i s l g c).keep h A3)<|λq _=>Pre.fact uv ?_
  rintro⟨b,rfl⟩;refine Z I<|As (sz:=1) [.tmp 14] I I I I I U6 UR I zeroValue40 I<|λp=>AQ<|Z I<|Ap U6 U6 Xcb I (λ_ h=>AR kj EY [b] I I) A8<|λj=>AD<|Ae<|Nh I<|AE<|HO ?_
  exact AJ ((i+1,j,us++[b])) A4 ⟨A4,by simp[a]⟩ (Si I)<|λ_ h=>by
   dsimp only;rw[z,S1 us (ls.take i) b l xN];exact h.perm<|List.Perm.cons _<|sV (l₁:=[_])
 exact Ab I<|AP<|Aa<|Aa<|Ar<|Kt<|Y I<|Lm I<|A I<|Al<|Av I I<|λ_ h=>⟨(x,us),rfl,A4,by rw[pZ J] at h;exact h⟩
def Xkq {nb nf fl:Nat} (t:1<=nb) (D:nb<=256) (C:fl<=3) (A:1<=ls.length) (u:ls.length<=4) (B:4*(ls.length+fl)<nf) (g:nf<=64) (e:∀l∈ls,l.length<=24) (a:∀l∈ls,∀o∈l,1<=o.kind/\o.kind<=4):Df prog 49 [.agg #[aa (nb:Int),aa (nf:Int),aa (fl:Int),vo]] (λw=>Y5 w vo vs ls) [] (λ_:Unit=>aa 0) Tr (λ_=>[]):=by
 intro w y p;have k:=y.len;refine E0 func49 I p<|Y I<|Z I<|AT I I I I<|λF=>Ce [aa (nb:Int),aa (nf:Int),aa (fl:Int),vo] I<|Ak I<|Y I<|EJ Vj I sizeOf25 I<|Lo isAgg25 0 I<|U I (AM I U6 I y.o.kp)<|Ak I<|Y I<|EJ Vj I Z3 I<|Lo G3 0 I<|Mv 2 I<|Sb 15 true I uo<|EJ Vj I Z3 I<|Lo G3 0 I<|U I WJ<|Mv 2 I<|Sb 20 true I uo<|EJ Vj I Z3 I<|Lo G3 0 I<|Mv 3 I ?_
 refine Sb 25 true I uo<|EJ Vj I Z3 I<|Lo G3 0 I<|U I WJ<|Mv 2 I<|Sb 30 true I uo<|Mv 4 I<|Sb 34 true I uo<|Lm I<|U I WJ<|U I (Qy I)<|Ak I<|E<|Y I<|Mv 3 I<|Sb 40 false I uo<|EJ Vj I Z3 I<|Lo G3 0 I ?_;refine Lm I<|EJ Vj I Z3 I<|Lo G3 0 I<|U I py<|U I Yz<|U I WJ<|Mv 2 I<|Sb 50 false I uo<|EJ Vj I Z3 I<|Lo G3 0 I<|U I vd<|U I (Qz I)<|G<|Sb 54 false I uo<|Ab I<|Ah<|Ks<|Y I<|EJ Vj I sizeOf25 I<|Lo isAgg25 0 I<|U I (AM I U6 I y.o.kp)<|Lm I<|G<|Af<|LH 4 (.bool true) I (congrArg Value.bool Dt) ?_;refine Bm (λ(i:Nat)=>[(4,.bool true),(56,vo),(57,aa (vs.length:Int)),(58,aa (i:Int))]) (λ(i:Nat)=>St w [] []) (λ(i:Nat)=>i<=vs.length) (λ(i:Nat)=>vs.length-i) (0) (qc _) (Si I) (λ_ h=>h.oS)<|λi hi=>Y I<|yR ?_
 refine CB 59 I (λf=>?_)<|λf=>?_
 .obtain⟨s,m⟩:=gE vs i;obtain⟨l,d⟩:=gE ls i;have r:=e l<|ry d;have z:=a l<|ry d;have x:=y.i i s l m d;refine Am I<|Ah<|Ks<|Af<|Y I<|U I (Aw i I U6 UR I y.o.kp I I)<|U I (AO i 0 I XZ I I y.o.kp m I)<|Ak I<|E<|Y I<|Lm I<|U I (AM I TM I x.kp)<|uG ?_;refine Bm (λ(j:Nat)=>[(4,.bool true),(6,s.v),(56,vo),(57,aa (vs.length:Int)),(58,aa (i:Int)),(62,s.v),(63,aa (l.length:Int)),(64,aa (j:Int))]) (λ(j:Nat)=>St w [] []) (λ(j:Nat)=>j<=l.length) (λ(j:Nat)=>l.length-j) (0) (qc _) (Si I) Ih<|λj hj=>Y I<|yR ?_
  refine CB 65 I (λb=>?_)<|λb=>?_
  .obtain⟨o,n⟩:=gE l j;have q:=z o<|ry n;refine Am I<|Ah<|Ks<|Af<|Y I<|U I (Aw j I TM U7 I x.kp I I)<|U I (Bc j I ZP U7 I I x.kp n)<|Z I<|Ax I I I zeroValue43<|λE=>Ce [aa 0,.string ⟨#[]⟩,.string ⟨#[]⟩,am 0] I<|Z I<|AF I I U7 I I I (Opn.one o) bZ<|Ce (Opn.c o) (Sep.oR I)<|G<|Cr I<|Mv 2 I<|EJ Ru I Z3 I<|Lo G3 0 I<|Mv 3 I<|Sb 74 true I (by first|rfl|(simp only[rA];omega)|exact sT J)<|EJ Ru I Z3 I<|Lo G3 0 I<|U I WJ<|Mv 2 I<|AE<|Au<|Kt<|Cr I<|U I (Qi I) ?_
   refine Lm I<|AE<|LH 4 (.bool true) I (congrArg Value.bool Dt) ?_;exact AJ (j+1) J J (Si I)<|λ_ h=>h.oS
  refine Ab I (AP<|Aa<|Aa<|Ar<|Kt<|Y I<|Mv 4 I<|U I (AM I TM I x.kp)<|U I vd<|U I (Qz I)<|G<|Sb 86 false I (by first|rfl|(simp only[rI];omega)|(simp;omega))<|Tm ?_);exact vV
 exact gY
def Ja (k:c3):Bs k k=0:=RC _
def NW (u:Kv 16) (a:Int):Qd (E5 u a)=true:=XeQ _
def Kq {m:Ms} (h:OD m):OI m.key=true:=by unfold OD at h;rw[qW] at h;exact h.1
def VW (b:Ms) (v:Kv 16):Ms:={b with kind:=1,val:=v,by':=0,wk:=A2,wy:=A2}
def nE (b:Ms) (z:Int):Ms:={b with by':=IntKind.u64.wrap z,wy:=IX _}
def gb {b:Ms} (h:¬b.kind=3):QE a b=b:=by unfold QE;rw[pN<|.inl h]
def Xkr {b:Ms} (h:b.kind=3) (x:a.key=b.key) (y:a.kind=2):QE a b=VW b (E5 (Na 16) b.by'):=by
 unfold QE;rw[pQ mZ,pN y];rfl
def Xks {b:Ms} (h:b.kind=3) (x:a.key=b.key) (y:a.kind=1):QE a b=VW b (E5 a.val b.by'):=by
 unfold QE;rw[pQ mZ,pQ J,pN y];rfl
def Xkt {b:Ms} (h:b.kind=3) (x:a.key=b.key) (y:a.kind=3):QE a b=nE b (b.by'+a.by'):=by
 unfold QE;rw[pQ mZ,pQ J,pQ J,pN y];rfl
def nF {b:Ms} (e:OD a) (c:OD b) (z:a.key=b.key):OD (QE a b)=true:=by
 by_cases h:b.kind=3
 .have x:=Kq c;have d:=XbU c h;rcases IY e with y|y|y
  .rw[Xks h z y];unfold OD;simp[VW,x,NW]
  .rw[Xkr h z y];unfold OD;simp[VW,x,NW]
  rw[Xkt h z y];unfold OD;simp[nE,x,h,d]
 rw[gb h];exact c
section
variable {α:Type} {f:α->c3}
abbrev S5 (f:α->c3) (l:List α) (k:c3) (ys:List α):List α:=l.take (DH f l k)++ys++l.drop (DH f l k+(if RP f l k=true then 1 else 0))
end
section
variable {α:Type} {f:α->c3}
def kX {l:List α} (y:Bt f l) {x:α} (a:x∈l):l[DH f l<|f x]?=some x:=by
 obtain⟨j,hj⟩:=tj.1 a
 have b:¬j<DH f l (f x):=λh=>by
  have:=Ma h hj;rw[Ja] at this;exact absurd this K
 rcases pG (DH f l<|f x) j with z|z
 .obtain⟨d,hd⟩:∃d,l[DH f l<|f x]?=some d:=mJ
  exact absurd (CV y _ _ d x z hd hj)<|P8 y (qb _) hd
 rw[show DH f l (f x)=j by omega];exact hj
end
section
variable {α:Type} {f:α->c3}
def Xdc {l:List α} (h:Bt f l) {x:α} (y:x∈l):RP f l (f x)=true:=by
 unfold RP;rw[kX h y];exact sT rfl
end
section
variable {α:Type} {f:α->c3}
def S6 {l:List α} (b:Bt f l) (k:c3) {y:α}:y∈l.take (DH f l k)\/y∈l.drop (DH f l k+(if RP f l k=true then 1 else 0))↔y∈l/\f y≠k:=by
 constructor
 .rintro (h|h)
  .refine⟨pF h,λe=>?_⟩;obtain⟨j,hj⟩:=tj.1 h;rw[pM] at hj;split at hj
   .rename_i hlt;have:=Ma hlt hj;rw[e,Ja] at this;exact absurd this K
   cases hj
  have c:=List.mem_of_mem_drop h;refine⟨c,λe=>?_⟩;have x:=Xdc b c;have a:=kX b c;rw[e] at x a;rw[pN x] at h;obtain⟨j,hj⟩:=tj.1 h;rw[pP] at hj;have:=CV b _ _ y y J a hj;rw[Ja] at this;exact absurd this K
 rintro⟨h,d⟩;rw[<-qV (DH f l k) l] at h;rcases rB.1 h with h|h
 .exact .inl h
 refine .inr ?_;by_cases hg:RP f l k=true
 .rw[pN hg];obtain⟨e,x,a⟩:=P9 hg;rw[pC (qp.1 x).1] at h;rcases pj.1 h with z|z
  .rw[(qp.1 x).2] at z;exact absurd (z▸a) d
  exact z
 rw[pQ hg];exact h
end
section
variable {α:Type} {f:α->c3}
def XbN {l:List α} (x:Bt f l) (k:c3) (ys:List α) {y:α}:y∈S5 f l k ys↔(y∈l/\f y≠k)\/y∈ys:=by
 rw[<-S6 x k];simp only[S5,rB];exact⟨λh=>h.elim (λh=>h.elim (λh=>.inl<|.inl h) .inr)<|λh=>.inl<|.inr h,λh=>h.elim (λh=>h.elim (λh=>.inl<|.inl h) .inr)<|λh=>.inl<|.inr h⟩
end
section
variable {α:Type} {f:α->c3}
def cd {l:List α} (i:Bt f l) (r:∀e∈l,OI (f e)=true) {k:c3} (hm:OI k) {ys:List α} (m:ys=[]\/∃y,ys=[y]/\f y=k):Bt f (S5 f l k ys):=by
 have c:∀b∈ys,f b=k:=λb z=>by
  rcases m with rfl|⟨y,rfl,e⟩
  .cases z
  simp at z;rw[z,e]
 have d:∀a∈l.take (DH f l k),Bs (f a) k<0:=λa g=>by
  obtain⟨j,hj⟩:=tj.1 g;exact ZE1
 have x:∀b∈l.drop (DH f l k+(if RP f l k=true then 1 else 0)),Bs k (f b)<0:=λb z=>by
  obtain⟨q,o⟩:=(S6 i k).1<|.inr z;obtain⟨j,hj⟩:=tj.1 z;rw[pP] at hj;have n:=P8 (k:=k) i J hj;have s:Bs k (f b)≠0:=λp=>o (XaK hm (r b q)<|Ip p).symm
  have:=XK (f b) k;omega
 unfold S5;rw[qQ];refine tU.2 ⟨i.sublist<|tV _ _,tU.2 ⟨?_,i.sublist<|List.drop_sublist _ _,λa g b z=>by rw[c a g];exact x b z⟩,λa g b z=>?_⟩
 .rcases m with rfl|⟨y,rfl,_⟩
  .exact List.Pairwise.nil
  exact um
 rcases rB.1 z with h|h
 .rw[c b h];exact d a g
 exact Cm (d a g)<|qP<|x b h
end
def gh (l:ct) (k:c3):V3 l k=RP En.key l k:=by
 unfold V3 RP;rw[show Dn l k=DH En.key l k from rfl];cases l[DH En.key l k]?<;>rfl
def cg (l:ct) (m:Ms):Dw l m=S5 En.key l m.key (Hz l m):=by
 unfold Dw S5;rw[gh];rfl
def Pf {l:ct} (h:Dl l) (m:Ms) {e:En}:e∈Dw l m↔(e∈l/\e.key≠m.key)\/e∈Hz l m:=by rw[cg];exact XbN (f:=En.key) h m.key<|Hz l m
def cj {l:ct} {m:Ms} {e:En} (h:e∈Hz l m):e.key=m.key:=by
 unfold Hz at h;split at h
 .simp at h;rw[h]
 cases h
def gi (l:cp) (k:c3):Option Ms:=if RP Ms.key l k=true then some (l.getD (DH Ms.key l k) ms0) else none
def cm {l:cp} (y:Bt Ms.key l) {k:c3} {x:Ms}:gi l k=some x↔x∈l/\x.key=k:=by
 unfold gi;constructor
 .intro h;split at h
  .rename_i hg;obtain⟨e,z,a⟩:=P9 hg;rw[DO z] at h;cases h
   exact⟨ry z,a⟩
  cases h
 rintro⟨h,rfl⟩;rw[pN<|Xdc y h,DO<|kX y h]
def gj (a b:Ms):(QE a b).key=b.key:=by unfold QE;split<;>(try split)<;>(try split)<;>(try split)<;>rfl
def UB (l:cp) (m:Ms):Ms:=match gi l m.key with|some a=>QE a m|none=>m
def S7 (l:cp) (m:Ms):(UB l m).key=m.key:=by unfold UB;split;exact gj _ _;rfl
def XbO (l:cp) (m:Ms):Ek l m=S5 Ms.key l m.key [UB l m]:=by
 unfold Ek UB gi S5;cases h:RP Ms.key l m.key<;>rfl
def Xgc {l:cp} (h:Bt Ms.key l) (y:∀e∈l,OD e=true) {m:Ms} (hm:OD m):Bt Ms.key (Ek l m):=by
 rw[XbO];exact cd h (λe x=>Kq<|y e x) (Kq hm)<|.inr ⟨_,rfl,S7 _ _⟩
def S8 {l:cp} (h:Bt Ms.key l) (m:Ms) {x:Ms}:x∈Ek l m↔(x∈l/\x.key≠m.key)\/x=UB l m:=by
 rw[XbO,XbN h,rU]
def gk {l:cp} (x:Bt Ms.key l) (y:∀e∈l,OD e=true) {m:Ms} (hm:OD m):OD (UB l m)=true:=by
 unfold UB;split
 .rename_i a h;obtain⟨z,b⟩:=(cm x).1 h;exact nF (y a z) hm b
 exact hm
def gm {l:cp} (x:Bt Ms.key l) (y:∀e∈l,OD e=true) {m:Ms} (hm:OD m):∀e∈Ek l m,OD e=true:=λe z=>by
 rcases (S8 x m).1 z with⟨h,_⟩|h
 .exact y e h
 .rw[h];exact gk x y hm
def cn {es:ct} (a:Dl es) {n:Nat} {x:En} (z:es[n]?=some x):(∀e∈es.take n,Bs e.key x.key<0)/\∀e∈es.drop n,¬Bs e.key x.key<0:=by
 refine⟨λe y=>?_,λe y=>?_⟩
 .obtain⟨j,hj⟩:=tj.1 y;rw[pM] at hj;split at hj
  .rename_i hlt;exact CV a _ _ e x hlt hj z
  cases hj
 obtain⟨j,hj⟩:=tj.1 y;rw[pP] at hj;rcases qg j with h|h
 .subst h;rw[sf,z] at hj;cases hj
  rw[Ja];decide
 have:=CV a _ _ x e J z hj;have b:=XK e.key x.key;omega
structure RE (l:ct):Prop where
 r:Dl l
 ok:∀e∈l,OI e.key=true/\Qd e.val=true
def cq {l:ct} {m:Ms} (hm:OD m) {e:En} (h:e∈Hz l m):OI e.key=true/\Qd e.val=true:=by
 have x:=Kq hm;unfold Hz at h;split at h
 .rename_i h2;simp only[rU] at h;subst h;refine⟨x,?_⟩;show Qd (F8 _ _ m).1=true
  unfold F8 at h2 ⊢;unfold OD at hm;rw[x,tO] at hm;by_cases h1:m.kind=1
  .rw[pN h1] at hm ⊢;rw[qW] at hm;exact hm.1
  rw[pQ h1] at h2 ⊢;by_cases h3:m.kind=3
  .rw[pN h3];exact NW _ _
  rw[pQ h3] at h2;cases h2
 cases h
def RE.put {l:ct} (h:RE l) {m:Ms} (hm:OD m):RE (Dw l m):=⟨XkS h.r (λe x=>(h.ok e x).1)<|Kq hm,λe x=>((Pf h.r m).1 x).elim (λy=>h.ok e y.1)<|cq hm⟩
def RE.all:∀{ms:cp} {l:ct},RE l->(∀m∈ms,OD m=true)->RE (BZ l ms)
 |[],_,h,_=>h
 |m::ms,l,h,hm=>RE.all (ms:=ms) (h.put Zw)<|λx y=>hm x<|sr _ y
def RE.rises {l:ct} {ms:cp} (h:RE l) (hm:∀m∈ms,OD m=true):J9 l ms:=λi _=>(h.all<|λm x=>hm m<|pF x).r
def NX:∀{ms:cp} {l:ct},RE l->(∀m∈ms,OD m=true)->∀e∈BZ l ms,(∃d∈l,d.key=e.key)\/∃m∈ms,m.key=e.key
 |[],_,_,_,e,he=>.inl ⟨e,he,rfl⟩
 |m::ms,l,h,hm,e,he=>by
  rcases NX (ms:=ms) (h.put Zw) (λx z=>hm x<|sr _ z) e he with⟨d,hd,y⟩|⟨x,z,y⟩
  .rcases (Pf h.r m).1 hd with⟨a,_⟩|a
   .exact .inl ⟨d,a,y⟩
   .exact .inr ⟨m,rW ..,by rw[<-cj a];exact y⟩
  .exact .inr ⟨x,sr _ z,y⟩
def XlC {f:α->c3} {l:List α} {k:c3} {y:α} (h:y∈l.take (DH f l k)):Bs (f y) k<0:=by
 obtain⟨j,hj⟩:=tj.1 h;exact ZE1
def Xlm {f:α->c3} {l:List α} (x:Bt f l) {k:c3} {y:α} (h:y∈l.drop (DH f l k)):¬Bs (f y) k<0:=by
 obtain⟨j,hj⟩:=tj.1 h;rw[pP] at hj;exact P8 x (Nat.le_add_right _ _) hj
def gn {l:ct} (h:Dl l) {i j:Nat} {a b:En} (x:i<j) (c:l[i]?=some a) (z:l[j]?=some b):Bs a.key b.key<0:=by
 obtain⟨y,rfl⟩:=qp.1 c;obtain⟨d,rfl⟩:=qp.1 z;exact tK.1 h i j y d x
def Xku {l:ct} (y:Dl l) (z:∀e∈l,OI e.key=true/\Qd e.val=true):Uc l=true:=by
 unfold Uc;rw[rT];intro i hi;have hi:=qm.1 hi;obtain⟨e,h⟩:∃e,l[i]?=some e:=⟨_,pE hi⟩
 have x:=z e<|ry h;unfold FN;rw[h];dsimp only;rw[x.1,x.2,tO,tO];cases i with
 |zero=>rfl
 |succ j =>
  obtain⟨d,hd⟩:=gE l j;simp only[Nat.add_sub_cancel,hd];exact sT<|gn y (Nat.lt_succ_self j) hd h
def QN:∀{l:ct},(∀e∈l,OI e.key=true/\Qd e.val=true)->lby l<=26*(l.length:Int)
 |[],_=>by simp[lby]
 |e::l,h=>by
  have b:=QN (l:=l)<|λx z=>h x<|sr _ z
  have y:=h e<|rW ..
  have c:=F7 y.1
  have a:=GP y.2
  unfold lby S9 at *
  simp only[qG,tZ,pz]
  omega
def XbP {l:ct} (z:∀e∈l,OI e.key=true/\Qd e.val=true) (h:1<=l.length):0<lby l:=by
 cases l with
 |nil=>simp at h
 |cons e l =>
  have a:=z e<|rW ..;have d:=F7 a.1;have c:=GP a.2
  have f:∀l:ct,(∀e∈l,OI e.key=true/\Qd e.val=true)->0<=lby l:=λl z=>by
   induction l with
   |nil=>simp[lby]
   |cons x l ih =>
    have a:=z x<|rW ..;have d:=F7 a.1;have c:=GP a.2;have:=ih<|λy b=>z y<|sr _ b
    exact zk
  have:=f l<|λy b=>z y<|sr _ b
  exact zk
def QO {l r:ct} (x:∀e∈l,OI e.key=true/\Qd e.val=true) (h:r.Sublist l):lby r<=lby l:=by
 induction h with
 |slnil=>exact Int.le_refl _
 |cons e _ ih =>
  have a:=x e<|rW ..;have c:=F7 a.1;have b:=GP a.2;have:=ih<|λy z=>x y<|sr _ z
  exact zk
 |cons_cons e _ ih =>
  have:=ih<|λy z=>x y<|sr _ z
  exact zk
inductive TL where
 |ld
 |pn
 |rq
 |rd
 |wq
 |wr
deriving DecidableEq
abbrev cU:=Option TL
def PS (l:Lt.La) (t:Int):cU->Prop
 |some .rd=>t∈l.rd
 |some .rq=>t∈l.rd\/(t,false)∈l.q
 |some .wr=>l.wr=t
 |some .wq=>l.wr=t\/(t,true)∈l.q
 |_=>t∉Lt.tasks l
namespace PS
variable {m:Lt.La} {t u:Int} {d:cU}
def Xk7 {w:Lt.Wt} {q:List Lt.Wt} (f:0<=t) (b:Lt.V4 m w.2) (a:(Lt.tasks {Lt.Oa m w.1 w.2 with q:=q}).Perm<|Lt.tasks {m with q:=w::q}) (h:PS {m with q:=w::q} t d):PS {Lt.Oa m w.1 w.2 with q:=q} t d:=by
 obtain⟨c,y⟩:=Lt.kZ.1 b;obtain⟨g,z⟩:=w;unfold Lt.Oa at a ⊢;unfold PS at h ⊢;split at h
 .cases z
  .exact kH
  exact ZGD
 .rcases h with h|h
  .cases z
   .exact .inl kH
   exact ZGD
  rcases pj.1 h with e|e
  .cases e;exact .inl<|Lt.kP.2 VY
  exact .inr e
 .have x:m.wr=t:=h;omega
 .rcases h with h|h
  .have x:m.wr=t:=h;omega
  rcases pj.1 h with e|e
  .cases e;exact .inl rfl
  exact .inr e
 intro hm;exact h<|a.mem_iff.1 hm
def Uz (x:0<=t):∀(q:List Lt.Wt) (m:Lt.La),Lt.La.Ok0 {m with q:=q}->PS {m with q:=q} t d->PS (Lt.Uz q m).2 t d
 |[],m,_,h=>h
 |w::q,m,h0,h=>by
  simp only[Lt.Uz]
  split
  .rename_i ho
   obtain⟨y,z⟩:=Lt.zN h0 ho
   exact Uz x q _ y<|Xk7 x ho z h
  .exact h
def Xdd (y:0<=t) (x:m.Ok0) (h:PS m t d):PS (Lt.Uy m).2 t d:=Uz y m.q m x h
def leave (z:0<=u) (y:m.Ok0) (x:t≠u) (h:PS m t d):PS (Lt.UH m u) t d:=by
 have a:=Lt.yx y z;unfold PS at h ⊢;split at h
 .exact tc.2 ⟨h,Zm⟩
 .rcases h with h|h
  .exact .inl<|tc.2 ⟨h,Zm⟩
  exact .inr<|tc.2 ⟨h,Zm⟩
 .exact ZEW
 .rcases h with h|h
  .refine .inl ?_;exact ZEW
  exact .inr<|tc.2 ⟨h,Zm⟩
 rw[a];intro hm;exact h (tc.1 hm).1
def Xfp (x:0<=u) (h:m.Ok0):PS (Lt.UH m u) u none:=by
 show u∉Lt.tasks (Lt.UH m u)
 rw[Lt.yx h x];intro hm;simpa using (tc.1 hm).2
def drop (a:0<=t) (y:0<=u) {n:Nat} (x:m.Ok n) (z:t≠u) (h:PS m t d):PS (Lt.TT m u).2 t d:=by
 unfold Lt.TT;rw[pQ J];exact Xdd a (Lt.YZ x y).toOk0<|leave y x.toOk0 z h
def XiK (h:0<=u) {n:Nat} (x:m.Ok n):PS (Lt.TT m u).2 u none:=by
 unfold Lt.TT;rw[pQ J];exact Xdd h (Lt.YZ x h).toOk0<|Xfp h x.toOk0
def take {w:Bool} (f:0<=t) (a:0<=u) (y:t≠u) (h:PS m t d):PS (Lt.UL m u w) t d:=by
 unfold Lt.UL;split
 .split
  .rename_i h1 h2;unfold Lt.VQ at h2;simp only[qW,rA] at h2;obtain⟨⟨_,g⟩,z⟩:=h2;obtain⟨c,x⟩:=Lt.kZ.1 z;have b:=Lt.kN (m:=m) (t:=u) (w:=w) a z;unfold PS at h ⊢;split at h
   .cases w
    .exact kH
    rw[x rfl] at h;cases h
   .rcases h with h|h
    .cases w
     .exact .inl kH
     rw[x rfl] at h;cases h
    exact .inr<|by rw[Lt.kL];exact h
   .omega
   .rcases h with h|h
    .omega
    exact .inr<|by rw[Lt.kL];exact h
   intro hm;rcases pj.1 (b.mem_iff.1 hm) with e|e
   .exact y e
   exact h e
  unfold PS at h ⊢;split at h
  .exact h
  .exact ZFZ
  .exact h
  .exact ZFZ
  intro hm;rcases pj.1 ((Lt.Xdk m u w).mem_iff.1 hm) with e|e
  .exact y e
  exact h e
 exact h
def XlJ {w:Bool} (x:0<=u) (y:m.Ok0) (h:u∉Lt.tasks m):PS (Lt.UL m u w) u (some (if w=true then .wq else .rq)):=by
 unfold Lt.UL;rw[pN<|by rw[y.may u x];simpa using h];split
 .unfold Lt.Oa;cases w
  .exact .inl<|Lt.kP.2 WM
  exact .inl I
 cases w
 .exact .inr<|sw _<|rW ..
 exact .inr<|sw _<|rW ..
def Xdt (h:PS m t<|some .rq) (x:t∉m.q.map Prod.fst):PS m t (some .rd):=by
 exact ZFi
def XlP (h:PS m t<|some .wq) (x:t∉m.q.map Prod.fst):PS m t (some .wr):=by
 exact ZFi
def XiJ (h:PS m t<|some .wr):PS m t (some .wq):=.inl h
end PS
def gp {t:Int} (h:0<=t):PS Lt.newL t none:=by show t∉Lt.tasks Lt.newL;exact rX
abbrev DM:=Int->Int->cU
def upd (d:DM) (t b:Int) (m:cU):DM:=λt' b'=>if t'=t/\b'=b then m else d t' b'
def C2 (d:DM) (t b:Int) (m:cU):upd d t b m t b=m:=pN ⟨rfl,rfl⟩
def NY {d:DM} {t:Int} {m:cU} (h:b'≠b):upd d t b m t' b'=d t' b':=pQ<|λe=>h e.2
def FP {d:DM} {t:Int} {m:cU} (h:t'≠t):upd d t b m t' b'=d t' b':=pQ<|λe=>h e.1
def Xkv {d:DM} {t:Int}:upd d t b (d t b)=d:=by
 funext t' b';unfold upd;split
 .rename_i h;rw[h.1,h.2]
 rfl
def Oz (d:DM) (b:Int):Nat:=(List.range 8).countP (λk:Nat=>(d (k:Int) b).isSome)
def Xaf {p q:α->Bool} {a:α}:∀{l:List α},l.Nodup->a∈l->(∀x,x≠a->p x=q x)->l.countP p+(if q a=true then 1 else 0)=l.countP q+(if p a=true then 1 else 0)
 |[],_,h,_=>wU
 |x::l,hn,h,he=>by
  have z:=ss.1 hn
  rw[List.countP_cons,List.countP_cons]
  rcases pj.1 h with e|e
  .subst e
   have:l.countP p=l.countP q:=List.countP_congr<|λy c=>by rw[he y<|λe=>z.1<|e▸c]
   omega
  .have d:=Xaf z.2 e he
   rw[he x<|λb=>z.1<|b▸e]
   omega
def HW {d:DM} {t:Int} (h:0<=t) (z:t<8) (m:cU):Oz (upd d t b m) b+(if (d t b).isSome=true then 1 else 0)=Oz d b+(if m.isSome=true then 1 else 0):=by
 have:=Xaf (p:=λk:Nat=>(upd d t b m (k:Int) b).isSome) (q:=λk:Nat=>(d (k:Int) b).isSome) (a:=t.toNat) (l:=List.range 8) List.nodup_range (qm.2 J)<|λx y=>by
  show (upd d t b m (x:Int) b).isSome=_
  rw[FP J]
 rw[show ((t.toNat:Nat):Int)=t by omega,C2] at this;exact this
def V0 {d:DM} {t:Int} (x:0<=t) (y:t<8) (h:(d t b).isSome):0<Oz d b:=by
 have:=HW (d:=d) (b:=b) x y none;rw[pN h] at this;simp at this;omega
def cr {d:DM} (h:∀t,d t b=none):Oz d b=0:=by
 unfold Oz;rw[List.countP_eq_zero];intro k _;rw[h];decide
def BN {l:List α} {y z:α} (x:k<l.length):(l.set k y)[i]?=some z↔(i=k/\z=y)\/(i≠k/\l[i]?=some z):=by
 rw[tb];by_cases h:k=i
 .subst h;rw[pN rfl,pN x];simp[eq_comm]
 rw[pQ h];constructor
 .exact λe=>.inr ⟨λa=>h a.symm,e⟩
 rintro (⟨e,_⟩|⟨_,e⟩)
 .exact absurd e.symm h
 exact e
def Mo.on (M:Mo) (b s:Int):Prop:=∃(i:Nat) (f:Vw),M.fr[i]?=some f/\f.blk=b/\f.st=s
structure XY (d:DM) (l:Lt.La) (f:Vw):Prop where
 in':f.st=1\/f.st=2->(∀t,0<=t->PS l t (d t f.blk))/\f.pins=(Oz d f.blk:Int)
 out:¬(f.st=1\/f.st=2)->∀t,0<=t->PS l t none
 s1:f.st=1->(∀t,d t f.blk=none\/d t f.blk=some .ld\/d t f.blk=some .pn)/\∃t,d t f.blk=some .ld
 s2:f.st=2->∀t,d t f.blk≠some .ld
def XY.congr {d b:DM} {l:Lt.La} (h:XY d l f) (y:f.st=1\/f.st=2->∀t,b t f.blk=d t f.blk):XY b l f:=by
 refine⟨λx=>?_,h.out,λx=>?_,λx t=>?_⟩
 .obtain⟨z,a⟩:=h.in' x;refine⟨λt c=>by rw[y x t];exact z t c,?_⟩;rw[a];unfold Oz;congr 1;exact List.countP_congr<|λk _=>by rw[y x]
 .obtain⟨z,t,a⟩:=h.s1 x;exact⟨λt=>by rw[y<|.inl x];exact z t,t,by rw[y<|.inl x];exact a⟩
 rw[y<|.inr x];exact h.s2 x t
structure HI (L:Hm) (d:DM) (cl:Int->Nat) (wt:Int->cf):Prop where
 fr:∀i f,L.M.fr[i]?=some f->XY d (L.OG i) f
 ll:L.la.length=L.M.fr.length
 Vp:∀i,∃n,(L.OG i).Ok n
 uni:∀(i j:Nat) (f g:Vw),L.M.fr[i]?=some f->L.M.fr[j]?=some g->f.st=1\/f.st=2->g.st=1\/g.st=2->f.blk=g.blk->i=j
 has:∀t b,(d t b).isSome=true->(0<=t/\t<8)/\(L.M.on b 1\/L.M.on b 2)
 Ud:∀t b,(t,b)∈L.M.loads↔d t b=some .pn/\L.M.on b 1
 rd:∀t b,d t b=some .ld↔Cw b L.rd=some t
 rk:(L.rd.map Prod.fst).Nodup
 line:∀q∈L.M.line,wt q.1=some q.2
 ln:(L.M.line.map Prod.fst).Nodup
 cl:∀t,L.M.claims t=cl t
section
variable {L:Hm} {d:DM} {cl:Int->Nat} {wt:Int->cf}
def V1:Oq b f=true↔f.blk=b/\(f.st=1\/f.st=2):=by
 unfold Oq;simp[qW,Bool.or_eq_true]
def Hj (h:M.find b=some i):∃f,M.fr[i]?=some f/\f.blk=b/\(f.st=1\/f.st=2)/\M.at' i=f:=by
 obtain⟨f,x,y⟩:=Hg<|show B8 (Oq b) M.fr=some i from h
 have:=V1.1 y;exact⟨f,x,this.1,this.2,by unfold Mo.at';rw[sY,x];rfl⟩
def Hk (h:M.find b=none) {i:Nat} {f:Vw} (x:M.fr[i]?=some f) (y:f.st=1\/f.st=2):f.blk≠b:=λe=>by
 have:=Fp (show B8 (Oq b) M.fr=none from h) f<|ry x
 rw[V1.2 ⟨e,y⟩] at this;cases this
def HI.find (h:HI L d cl wt) {b:Int} {i:Nat} {f:Vw} (z:L.M.fr[i]?=some f) (a:f.blk=b) (c:f.st=1\/f.st=2):L.M.find b=some i:=by
 cases hx:L.M.find b with
 |none=>exact absurd a (Hk hx z c)
 |some j =>
  obtain⟨g,e,y,x,_⟩:=Hj hx;rw[h.uni i j f g z e c x<|by rw[a,y]]
def LS (h:M.fr[i]?=some f):M.at' i=f:=by unfold Mo.at';rw[sY,h];rfl
def HI.Me (h:HI L d cl wt) {b s:Int} {i:Nat} {f:Vw} (y:L.M.fr[i]?=some f) (a:f.blk=b) (z:f.st=s) (x:s=1\/s=2):L.M.Me b s=some i:=by
 unfold Mo.Me;rw[h.find y a<|by rw[z];exact x];dsimp only;rw[LS y,pN z]
def Mh {s:Int} (h:M.Me b s=some i):∃f,M.fr[i]?=some f/\f.blk=b/\f.st=s/\M.at' i=f:=by
 obtain⟨z,c⟩:=Eg h;obtain⟨f,y,a,_,x⟩:=Hj z;exact⟨f,y,a,by rw[<-x];exact c,x⟩
def HI.Xw (h:HI L d cl wt) {b:Int} (g:L.M.on b 2):∃i f,L.M.fr[i]?=some f/\f.blk=b/\f.st=2/\L.M.Me b 2=some i/\L.fi b=i/\L.nd b=f.nd/\L.no b=f.nd:=by
 obtain⟨i,f,x,z,a⟩:=g;have y:=h.Me x z a VZ;have c:L.fi b=i:=by unfold Hm.fi;rw[y];rfl
 have e:L.nd b=f.nd:=by unfold Hm.nd;rw[c,LS x]
 exact⟨i,f,x,z,a,y,c,e,by unfold Hm.no;rw[Qv y,LS x]⟩
def HI.Ti (h:HI L d cl wt) {b:Int}:(L.M.Me b 2).isSome=true↔L.M.on b 2:=by
 constructor
 .intro y;obtain⟨i,hi⟩:=Option.isSome_iff_exists.1 y;obtain⟨f,x,a,e,_⟩:=Mh hi;exact⟨i,f,x,a,e⟩
 intro c;obtain⟨i,f,_,_,_,z,_⟩:=h.Xw c;rw[z];rfl
def HI.kY (h:HI L d cl wt) {b:Int} (k:L.M.on b 1) (c:L.M.on b 2):False:=by
 obtain⟨i,f,a,e,l⟩:=k;obtain⟨j,g,z,y,x⟩:=c;have:=h.uni i j f g a z (.inl l) (.inr x)<|by rw[e,y]
 subst this;rw[a] at z;cases z
 omega
def Fh {t:Int} (hm:L.may t):OJ t=true/\L.M.waits t=false/\∀i,t∉(L.OG i).q.map Prod.fst:=by
 unfold Hm.may Mo.may at hm;simp only[qW,rV] at hm;refine⟨hm.2.1.1,hm.2.1.2,λi h=>?_⟩;have x:=hm.1;rw[List.any_eq_false] at x;unfold Hm.OG at h;by_cases hi:i<L.la.length
 .rw[sY,pE hi] at h;exact x _ (List.getElem_mem hi)<|sT h
 rw[sY,pH J] at h;cases h
def QP {t:Int}:OJ t=true↔0<=t/\t<8:=by unfold OJ;simp[qW]
def HI.fM (h:HI L d cl wt) {t b:Int} (hd:d t b=some .pn) (hm:L.may t):L.M.on b 2:=by
 obtain⟨_,x,_⟩:=Fh hm;rcases (h.has t b xh).2 with y|y
 .exfalso;have:=(h.Ud t b).2 ⟨hd,y⟩;unfold Mo.waits at x;rw[List.any_eq_false] at x;exact x _ this<|by unfold Xy;exact sT I
 exact y
def HI.ZI (h:HI L d cl wt) {t b:Int} {m:TL} (hd:d t b=some m) (hm:m≠.ld) (a:m≠.pn):L.M.on b 2:=by
 rcases (h.has t b xh).2 with⟨i,f,x,y,c⟩|z
 .exfalso;have:=((h.fr i f x).s1 c).1 t;rw[y,hd] at this;rcases this with e|e|e
  .cases e
  .exact hm<|by cases e;rfl
  exact a<|by cases e;rfl
 exact z
def HI.ah (h:HI L d cl wt) {t b:Int} (e:0<=t) (a:L.M.on b 2):PS (L.OG<|L.fi b) t (d t b):=by
 obtain⟨i,f,y,z,c,_,x,_⟩:=h.Xw a;have:=((h.fr i f y).in'<|.inr c).1 t e;rw[z] at this;rw[x];exact this
def HI.wr (h:HI L d cl wt) {t b:Int} (hd:d t b=some .wr):L.Rz t b:=by
 have x:=h.ZI hd K K;have y:=(h.has t b xh).1.1;have:=h.ah y x;rw[hd] at this;exact⟨h.Ti.2 x,this⟩
def HI.wq (h:HI L d cl wt) {t b:Int} (hd:d t b=some .wq) (hm:L.may t):L.Rz t b:=by
 have x:=h.ZI hd K K;have y:=(h.has t b xh).1.1;have:=h.ah y x;rw[hd] at this;exact⟨h.Ti.2 x,PS.XlP this<|(Fh hm).2.2 _⟩
def HI.rdr (h:HI L d cl wt) {t b:Int} (hd:d t b=some .rd):L.has t b:=by
 have x:=h.ZI hd K K;have y:=(h.has t b xh).1.1;have:=h.ah y x;rw[hd] at this;exact ZB1
def HI.rq (h:HI L d cl wt) {t b:Int} (hd:d t b=some .rq) (hm:L.may t):L.has t b:=by
 have x:=h.ZI hd K K;have y:=(h.has t b xh).1.1;have:=h.ah y x;rw[hd] at this;have:=PS.Xdt this<|(Fh hm).2.2 _;exact ZB1
def HI.one (h:HI L d cl wt) {t u b:Int} (hd:d t b=some .wr) (x:d u b=some .wr\/d u b=some .rd):u=t:=by
 have z:=(h.wr hd).2;have a:=(h.has t b xh).1.1;rcases x with x|x
 .rw[<-(h.wr x).2,z]
 exfalso;have e:=h.ZI x K K;have:=h.ah (h.has u b zc).1.1 e;rw[x] at this;obtain⟨n,c⟩:=h.Vp<|L.fi b;have f:=c.ex<|by rw[z];exact a
 have y:u∈(L.OG<|L.fi b).rd:=this;rw[f] at y;cases y
end
def HX (p:α->Bool):∀{l:List α} {k:Nat} {x y:α},l[k]?=some x->(l.set k y).countP p+(if p x=true then 1 else 0)=l.countP p+(if p y=true then 1 else 0)
 |[],k,x,y,h=>yF
 |z::l,0,x,y,h=>by
  simp at h;subst h
  rw[rL,List.countP_cons,List.countP_cons];omega
 |z::l,k+1,x,y,h=>by
  have a:=HX p (l:=l) (k:=k) (x:=x) (y:=y) sv
  rw[sC,List.countP_cons,List.countP_cons];omega
def QQ {la la':Nat->Lt.La} {d z:DM} (h:∀i f,M.fr[i]?=some f->XY d (la i) f) (a:k<M.fr.length) (e:XY z (la' k) y) (b:∀i,i≠k->la' i=la i)
 (hd:∀i g,i≠k->M.fr[i]?=some g->g.st=1\/g.st=2->∀t,z t g.blk=d t g.blk) (i:Nat) (g:Vw) (x:(M.fr.set k y)[i]?=some g):XY z (la' i) g:=by
 rcases (BN a).1 x with⟨rfl,rfl⟩|⟨hi,x⟩
 .exact e
 rw[b i hi];exact (h i g x).congr<|λc t=>hd i g hi x c t
def QR {y:Vw} (h:∀(i j:Nat) (f g:Vw),M.fr[i]?=some f->M.fr[j]?=some g->f.st=1\/f.st=2->g.st=1\/g.st=2->f.blk=g.blk->i=j) (d:k<M.fr.length)
 (n:y.st=1\/y.st=2->∀i g,i≠k->M.fr[i]?=some g->g.st=1\/g.st=2->g.blk≠y.blk) (i j:Nat) (f g:Vw) (q:(M.fr.set k y)[i]?=some f) (m:(M.fr.set k y)[j]?=some g) (c:f.st=1\/f.st=2) (b:g.st=1\/g.st=2) (a:f.blk=g.blk):i=j:=by
 rcases (BN d).1 q with⟨p,o⟩|⟨hi,z⟩
 .rcases (BN d).1 m with⟨e,l⟩|⟨hj,x⟩
  .rw[p,e]
  rw[o] at c a;exact absurd a.symm<|n c j g hj x b
 rcases (BN d).1 m with⟨e,l⟩|⟨hj,x⟩
 .rw[l] at b a;exact absurd a<|n b i f hi z c
 exact h i j f g z x c b a
def UD (a:k<M.fr.length) {b s:Int}:(M.put k y).on b s↔(y.blk=b/\y.st=s)\/∃i f,i≠k/\M.fr[i]?=some f/\f.blk=b/\f.st=s:=by
 constructor
 .rintro⟨i,f,z,h,x⟩;rcases (BN a).1 z with⟨rfl,rfl⟩|⟨hi,z⟩
  .exact .inl ⟨h,x⟩
  exact .inr ⟨i,f,hi,z,h,x⟩
 rintro (⟨h,x⟩|⟨i,f,hi,z,h,x⟩)
 .exact⟨k,y,(BN a).2 yD,h,x⟩
 exact⟨i,f,(BN a).2<|.inr ⟨hi,z⟩,h,x⟩
def QS (x:M.fr[k]?=some f) (z:¬(f.st=1\/f.st=2)) {b s:Int} (a:s=1\/s=2):(M.put k y).on b s↔(y.blk=b/\y.st=s)\/M.on b s:=by
 rw[UD (qp.1 x).1];refine or_congr Iff.rfl ⟨fun⟨i,f,_,h⟩=>⟨i,f,h⟩,fun⟨i,g,hg,hb,h⟩=>⟨i,g,λe=>?_,hg,hb,h⟩⟩;subst e;rw[x] at hg;cases hg
 exact z<|by rw[h];exact a
def V2 (a:M.fr[k]?=some f) (d:y.blk=f.blk) (j:y.st=f.st) {b s:Int}:(M.put k y).on b s↔M.on b s:=by
 rw[UD (qp.1 a).1];constructor
 .rintro (⟨x,z⟩|⟨i,f,_,h⟩)
  .exact⟨k,f,a,by rw[<-d];exact x,by rw[<-j];exact z⟩
  exact⟨i,f,h⟩
 rintro⟨i,g,c,x,z⟩;by_cases e:i=k
 .subst e;rw[a] at c;cases c
  exact .inl ⟨by rw[d];exact x,by rw[j];exact z⟩
 exact .inr ⟨i,g,e,c,x,z⟩
def Xgd {t:Int} (x:(M.line.map Prod.fst).Nodup):(∀q∈(M.leave t).line,q∈M.line/\q.1≠t)/\((M.leave t).line.map Prod.fst).Nodup:=by
 have e:(M.leave t).line=M.line.filter (λq=>decide (q.1≠t)):=by
  unfold Mo.leave;dsimp only;cases hs:M.stand t with
  |none =>
   have:=Fp<|show B8 (Xy t) M.line=none from hs
   exact (List.filter_eq_self.2 (λq h=>by have:=this q h;unfold Xy at this;simpa using this)).symm
  |some i =>
   obtain⟨q,h,y⟩:=Iv hs;exact (Lt.kK (f:=Prod.fst) x h y).symm
 rw[e];exact⟨λq h=>⟨(tc.1 h).1,by simpa using (tc.1 h).2⟩,x.sublist<|List.filter_sublist.map _⟩
def JQ (h:M.fr[k]?=some f) (t:Int):(M.put k y).claims t+(if isC t f=true then 1 else 0)=M.claims t+(if isC t y=true then 1 else 0):=HX (isC t) h
def Ez {t:Int}:isC t f=true↔f.st=3/\f.own=t:=by unfold isC;simp[qW]
def K8 {t:Int} (h:f.st≠3):isC t f=false:=by unfold isC;rw[sS h];rfl
def GL (h:M.fr[k]?=some f) (z:f.st≠3) (x:y.st≠3) (t:Int):(M.put k y).claims t=M.claims t:=by
 have:=JQ (y:=y) h t;rw[K8 z,K8 x] at this;simpa using this
section
variable {L:Hm} {d:DM} {cl:Int->Nat} {wt:Int->cf}
def HI.zK (h:HI L d cl wt) {b:Int} (a:L.M.find b=none) (t:Int):d t b=none:=by
 cases hd:d t b with
 |none=>rfl
 |some m =>
  exfalso;rcases (h.has t b xh).2 with⟨i,f,y,z,x⟩|⟨i,f,y,z,x⟩
  .exact Hk a y (.inl x) z
  exact Hk a y (.inr x) z
def HI.others (h:HI L d cl wt) {k:Nat} {f:Vw} (x:L.M.fr[k]?=some f) (z:f.st=1\/f.st=2):∀i g,i≠k->L.M.fr[i]?=some g->g.st=1\/g.st=2->g.blk≠f.blk:=λi g hi y a e=>hi<|h.uni i k g f y x a z e
def HI.fO (h:HI L d cl wt) {k:Nat} {f y:Vw} (c:L.M.fr[k]?=some f) (E:f.st=1\/f.st=2) (x:y.blk=f.blk) (z:y.st=f.st) {t:Int} {m:cU} (Q:0<=t/\t<8) {l':Lt.La} {la':List Lt.La} (F:la'=L.la.set k l')
 (J:∀u,0<=u->PS l' u (upd d t f.blk m u f.blk)) (B:∃n,l'.Ok n) (H:y.pins=(Oz (upd d t f.blk m) f.blk:Int)) (P:f.st=1->(m=none\/m=some .ld\/m=some .pn)/\∃u,upd d t f.blk m u f.blk=some .ld) (p:f.st=2->m≠some .ld)
 {lo ln rd:List<|Int×Int} {hd:Int} (v:∀u b,(u,b)∈lo↔upd d t f.blk m u b=some .pn/\L.M.on b 1) (G:∀u b,upd d t f.blk m u b=some .ld↔Cw b rd=some u) (D:(rd.map Prod.fst).Nodup) {wt':Int->cf} (A:(∀q∈ln,wt' q.1=some q.2)/\(ln.map Prod.fst).Nodup) {s':OH} :
 HI ⟨⟨L.M.fr.set k y,lo,ln,hd⟩,s',la',rd⟩ (upd d t f.blk m) cl wt':=by
 subst F;have o:=(qp.1 c).1
 have w:(⟨⟨L.M.fr.set k y,lo,ln,hd⟩,s',L.la.set k l',rd⟩:Hm).OG k=l':=by
  show (L.la.set k l').getD k Lt.newL=l'
  rw[sY,tE<|by rw[h.ll];exact o];rfl
 have r:∀i,i≠k->(⟨⟨L.M.fr.set k y,lo,ln,hd⟩,s',L.la.set k l',rd⟩:Hm).OG i=L.OG i:=λi hi=>by
  show (L.la.set k l').getD i Lt.newL=L.la.getD i Lt.newL
  rw[sY,tW<|rQ hi,<-sY]
 have l:∀b s,Mo.on ⟨L.M.fr.set k y,lo,ln,hd⟩ b s↔L.M.on b s:=λb s=>V2 (M:=L.M) c x z
 have j:=h.others c E;refine⟨QQ (la:=λi=>L.OG i) (la':=λi=>(⟨⟨L.M.fr.set k y,lo,ln,hd⟩,s',L.la.set k l',rd⟩:Hm).OG i) h.fr o ?_ r<|λi g hi C p u=>NY<|j i g hi C p,by show (L.la.set k l').length=(L.M.fr.set k y).length;rw[sI,sI];exact h.ll,λi=>?_,QR h.uni o (λ_ i g hi C p=>by rw[x];exact j i g hi C p),λu b K=>?_,λu b=>?_,G,D,A.1,A.2,λu=>?_⟩
 .show XY _ (Hm.OG _ k) y
  rw[w];refine⟨λ_=>⟨by rw[x];exact J,by rw[x];exact H⟩,λR=>absurd (by rw[z];exact E) R,λa=>?_,λa u=>?_⟩
  .rw[z] at a;obtain⟨N,O⟩:=P a;rw[x];refine⟨λu=>?_,O⟩;by_cases e:u=t
   .subst e;rw[C2];exact N
   rw[FP e];exact ((h.fr k f c).s1 a).1 u
  rw[z] at a;rw[x];by_cases e:u=t
  .subst e;rw[C2];exact p a
  rw[FP e];exact (h.fr k f c).s2 a u
 .by_cases e:i=k
  .rw[e,w];exact B
  rw[r i e];exact h.Vp i
 .show _/\(Mo.on _ b 1\/Mo.on _ b 2)
  rw[l,l];by_cases e:u=t/\b=f.blk
  .rw[e.1,e.2];exact⟨Q,E.imp (λa=>⟨k,f,c,rfl,a⟩)<|λa=>⟨k,f,c,rfl,a⟩⟩
  have:upd d t f.blk m u b=d u b:=pQ e;rw[this] at K;exact h.has u b K
 .show _↔_/\Mo.on _ b 1
  rw[l];exact v u b
 show (L.M.put k y).claims u=_
 rw[GL c A1<|by rw[z];omega];exact h.cl u
def HI.Xdj (h:HI L d cl wt) {k:Nat} {f y:Vw} (G:L.M.fr[k]?=some f) (K:¬(f.st=1\/f.st=2)) (l:y.st=1\/y.st=2) (O:L.M.find y.blk=none) {t:Int} {m:cU} (D:0<=t/\t<8) (hm:y.st=1/\m=some .ld\/y.st=2/\m=none) (J:y.pins=if m.isSome=true then 1 else 0)
 {ln rd:List<|Int×Int} {hd:Int} (H:∀u b,upd d t y.blk m u b=some .ld↔Cw b rd=some u) (C:(rd.map Prod.fst).Nodup) {cl':Int->Nat} (E:∀u,(L.M.put k y).claims u=cl' u) {wt':Int->cf} (n:(∀q∈ln,wt' q.1=some q.2)/\(ln.map Prod.fst).Nodup) {s':OH} :
 HI ⟨⟨L.M.fr.set k y,L.M.loads,ln,hd⟩,s',L.la,rd⟩ (upd d t y.blk m) cl' wt':=by
 have p:=(qp.1 G).1;have x:=h.zK O;have j:∀b s,s=1\/s=2->(Mo.on ⟨L.M.fr.set k y,L.M.loads,ln,hd⟩ b s↔(y.blk=b/\y.st=s)\/L.M.on b s):=λb s F=>QS (M:=L.M) G K F
 have a:∀i g,i≠k->L.M.fr[i]?=some g->g.st=1\/g.st=2->g.blk≠y.blk:=λi g _ A B=>Hk O A B
 have v:m≠some .pn:=by rcases hm with⟨_,e⟩|⟨_,e⟩<;>rw[e]<;>decide
 refine⟨QQ (la:=λi=>L.OG i) (la':=λi=>L.OG i) h.fr p ?_ (λ_ _=>I)<|λi g hi A B u=>NY<|a i g hi A B,by show L.la.length=(L.M.fr.set k y).length;rw[sI];exact h.ll,h.Vp,QR h.uni p<|λ_=>a,λu b r=>?_,λu b=>?_,H,C,n.1,n.2,E⟩
 .have w:=(h.fr k f G).out K;refine⟨λ_=>⟨λu r=>?_,?_⟩,λQ=>absurd l Q,λo=>?_,λo u=>?_⟩
  .have N:=w u r;by_cases e:u=t
   .subst e;rw[C2];rcases hm with⟨_,e⟩|⟨_,e⟩<;>rw[e]<;>exact N
   rw[FP e,x];exact N
  .have:=HW (d:=d) (b:=y.blk) D.1 D.2 m;rw[x,cr x] at this;simp only[Option.isSome_none,r5,r9,sf,qK] at this;rw[J,this];split<;>rfl
  .rcases hm with⟨_,e⟩|⟨e,_⟩
   .refine⟨λu=>?_,t,by rw[C2,e]⟩;by_cases c:u=t
    .subst c;rw[C2,e];exact .inr VY
    rw[FP c,x];exact .inl rfl
   omega
  rcases hm with⟨e,_⟩|⟨_,e⟩
  .omega
  by_cases c:u=t
  .subst c;rw[C2,e];decide
  rw[FP c,x];decide
 .show _/\(Mo.on _ b 1\/Mo.on _ b 2)
  rw[j b 1 VY,j b 2 VZ];by_cases e:u=t/\b=y.blk
  .rw[e.1,e.2];exact⟨D,l.imp (λo=>.inl ⟨rfl,o⟩)<|λo=>.inl ⟨rfl,o⟩⟩
  have:upd d t y.blk m u b=d u b:=pQ e;rw[this] at r;have:=h.has u b r;exact⟨this.1,this.2.imp .inr .inr⟩
 show _↔_/\Mo.on _ b 1
 rw[j b 1 VY];by_cases e:u=t/\b=y.blk
 .rw[e.1,e.2,C2];constructor
  .intro z;have:=((h.Ud t y.blk).1 z).1;rw[x] at this;cases this
  exact λz=>absurd z.1 v
 have c:upd d t y.blk m u b=d u b:=pQ e;rw[c,h.Ud u b];constructor
 .exact λz=>⟨z.1,.inr z.2⟩
 rintro⟨z,⟨P,_⟩|R⟩
 .rw[<-P,x] at z;cases z
 exact⟨z,R⟩
def HI.l9 (h:HI L d cl wt) {fr:List Vw} (r:fr.length=L.M.fr.length) (l:∀(i:Nat) (g:Vw),fr[i]?=some g->∃f:Vw,L.M.fr[i]?=some f/\((f.st=1\/f.st=2)/\g.blk=f.blk/\g.st=f.st/\g.pins=f.pins\/(f.st=1\/f.st=2->∀t,d t f.blk=none)/\¬(g.st=1\/g.st=2)))
 {ln:List<|Int×Int} {hd:Int} {cl':Int->Nat} (A:∀u,fr.countP (isC u)=cl' u) {wt':Int->cf} (v:(∀q∈ln,wt' q.1=some q.2)/\(ln.map Prod.fst).Nodup) {s':OH} :
 HI ⟨⟨fr,L.M.loads,ln,hd⟩,s',L.la,L.rd⟩ d cl' wt':=by
 have k:∀(i:Nat) (g:Vw),fr[i]?=some g->g.st=1\/g.st=2->∃f:Vw,L.M.fr[i]?=some f/\(f.st=1\/f.st=2)/\g.blk=f.blk/\g.st=f.st/\g.pins=f.pins:=λi g e y=>by
  obtain⟨f,a,x|x⟩:=l i g e
  .exact⟨f,a,x⟩
  exact absurd y x.2
 have p:∀b s,s=1\/s=2->Mo.on ⟨fr,L.M.loads,ln,hd⟩ b s->L.M.on b s:=λb s h12 ⟨i,g,e,o,y⟩=>by
  obtain⟨f,a,_,x,w,_⟩:=k i g e<|by rw[y];exact h12
  exact⟨i,f,a,by rw[<-x];exact o,by rw[<-w];exact y⟩
 have c:∀u b s,(d u b).isSome=true->s=1\/s=2->L.M.on b s->Mo.on ⟨fr,L.M.loads,ln,hd⟩ b s:=λu b s n h12 ⟨i,f,a,o,y⟩=>by
  have hi:=(qp.1 a).1;have e:fr[i]?=some (fr[i]'(by rw[r];exact hi)):=pE _;obtain⟨f',z,x|x⟩:=l i _ e
  .rw[a] at z;cases z
   exact⟨i,_,e,by rw[x.2.1];exact o,by rw[x.2.2.1];exact y⟩
  rw[a] at z;cases z
  have:=x.1 (by rw[y];exact h12) u;rw[o] at this;rw[this] at n;cases n
 refine⟨λi g e=>?_,by show L.la.length=fr.length;rw[r];exact h.ll,h.Vp,λi j f g a e x w o=>?_,λu b n=>?_,λu b=>?_,h.rd,h.rk,v.1,v.2,A⟩
 .show XY d (L.OG i) g
  obtain⟨f,a,x|x⟩:=l i g e
  .have:=h.fr i f a;refine⟨λ_=>?_,λH=>absurd (by rw[x.2.2.1];exact x.1) H,λy=>?_,λy=>?_⟩
   .rw[x.2.1,x.2.2.2];exact this.in' x.1
   .rw[x.2.1];exact this.s1<|by rw[<-x.2.2.1];exact y
   rw[x.2.1];exact this.s2<|by rw[<-x.2.2.1];exact y
  refine⟨λy=>absurd y x.2,λ_ t C=>?_,λy=>absurd Xp x.2,λy=>absurd (.inr y) x.2⟩;by_cases y:f.st=1\/f.st=2
  .have:=((h.fr i f a).in' y).1 t C;rw[x.1 y t] at this;exact this
  exact (h.fr i f a).out y t C
 .obtain⟨f',z,G,E,K,_⟩:=k i f a x;obtain⟨F,B,D,J,N,_⟩:=k j g e w;exact h.uni i j f' F z B G D<|by rw[<-E,<-J];exact o
 .have:=h.has u b n;exact⟨this.1,this.2.imp (c u b 1 n WM)<|c u b 2 n<|.inr I⟩
 show _↔_/\Mo.on _ b 1
 rw[h.Ud u b];exact⟨λm=>⟨m.1,c u b 1 (by rw[m.1];rfl) WM m.2⟩,λm=>⟨m.1,p b 1 WM m.2⟩⟩
end
section
variable {L:Hm} {d:DM} {cl:Int->Nat} {wt:Int->cf}
def Xbr (h:HI L d cl wt) {t:Int} {wt':Int->cf} (z:∀u,u≠t->wt' u=wt u):(∀q∈(L.M.leave t).line,wt' q.1=some q.2)/\((L.M.leave t).line.map Prod.fst).Nodup:=by
 obtain⟨y,a⟩:=Xgd (t:=t) h.ln;exact⟨λq x=>by rw[z _ (y q x).2];exact h.line q (y q x).1,a⟩
def HI.SY (h:HI L d cl wt) {t b:Int} (hm:L.may t) (z:wt t=some b):L.M.SY t b=true:=by
 obtain⟨a,c,_⟩:=Fh hm;unfold Mo.SY;rw[a,c];cases hs:L.M.stand t with
 |none=>rfl
 |some i =>
  obtain⟨q,x,y⟩:=Iv hs;have:=h.line q<|ry x;rw[y,z] at this;cases this
  dsimp only;rw[x,<-y];simp
def Kr {t:Int} (h:M.takes t=some k):∃f,M.fr[k]?=some f/\f.st=0:=by
 obtain⟨y,x,z,_⟩:=Ix h;exact⟨y,x,z⟩
def Ku (h:HI L d cl wt) {t b:Int} (z:wt t=some b):(∀q∈(L.M.ask t b).line,wt q.1=some q.2)/\((L.M.ask t b).line.map Prod.fst).Nodup:=by
 unfold Mo.ask;dsimp only;split
 .rename_i hs;have f:=Fp<|show B8 (Xy t) L.M.line=none from ti.1 hs
  refine⟨λq x=>?_,?_⟩
  .rcases rB.1 x with e|e
   .exact h.line q e
   simp at e;subst e;exact z
  rw[qR,su];refine⟨h.ln,j,λa g c y e=>?_⟩;simp at y;subst y;subst e;obtain⟨q,x,e⟩:=qj.1 g;have:=f q x;unfold Xy at this;rw[sT e] at this;cases this
 exact Z8
def XkP {t:Int} (y:Ry b) (h:L.M.SY t b) (x:L.M.find b=some i) (z:L.M.at' i=f):L.pin t b=if f.st=2 then (1,⟨⟨L.M.fr.set i {f with pins:=f.pins+1,ref:=true},L.M.loads,(L.M.leave t).line,L.M.hand⟩,L.s,L.la,L.rd⟩) else (2,⟨⟨L.M.fr.set i {f with pins:=f.pins+1,ref:=true},L.M.loads++[(t,b)],(L.M.leave t).line,L.M.hand⟩,L.s,L.la,L.rd⟩):=by
 subst z;unfold Hm.pin Mo.pin;rw[y,h,x];by_cases hs:(L.M.at' i).st=2
 .simp only[hs,qX];rfl
 simp only[hs,r9];rfl
def HI.pin (h:HI L d cl wt) {t b:Int} (hm:L.may t) (hd:d t b=none) (C:wt t=some b) (J:Ry b) {wt':Int->cf} (B:∀u,u≠t->wt' u=wt u) :
 (((L.pin t b).1=1\/(L.pin t b).1=2)/\HI (L.pin t b).2 (upd d t b<|some .pn) cl wt')\/((L.pin t b).1=3/\HI (L.pin t b).2 (upd d t b<|some .ld) cl wt')\/((L.pin t b).1=4/\HI (L.pin t b).2 d cl wt):=by
 have w:=h.SY hm C;have p:=QP.1 (Fh hm).1;have a:=Xbr h B;cases hf:L.M.find b with
 |none =>
  unfold Hm.pin Mo.pin;rw[J,w,hf];simp only[Bool.and_self,Bool.true_eq_false,r9];cases hk:L.M.takes t with
  |none=>exact .inr (.inr ⟨rfl,h.fr,h.ll,h.Vp,h.uni,h.has,h.Ud,h.rd,h.rk,(Ku h C).1,(Ku h C).2,h.cl⟩)
  |some k =>
   obtain⟨f,r,N⟩:=Kr hk;refine .inr<|.inl ⟨rfl,?_⟩;have E:=h.zK hf;refine h.Xdj (y:=⟨1,b,0,1,true,false,nd0⟩) (m:=some .ld) r A1 WM hf p yD I ?_ (G7 _ _ h.rk) (λu=>?_) a
   .intro u c;by_cases e:c=b
    .subst e;show _↔Cw c (if (3:Int)=3 then C4 c t L.rd else L.rd)=_
     rw[pN rfl,J0];by_cases o:u=t
     .subst o;rw[C2];simp
     rw[FP o,E];simp[rQ o]
    show _↔Cw c (if (3:Int)=3 then C4 b t L.rd else L.rd)=_
    rw[pN rfl,IU<|rQ e,NY e];exact h.rd u c
   rw[GL r A1<|by show (1:Int)≠3;decide];exact h.cl u
 |some i =>
  obtain⟨f,x,G,z,K⟩:=Hj hf;subst G;have l:=((h.fr i f x).in' z).1
  have A:∀u,0<=u->PS (L.OG i) u (upd d t f.blk (some .pn) u f.blk):=λu g=>by
   by_cases e:u=t
   .subst e;rw[C2];have:=l u g;rw[hd] at this;exact this
   rw[FP e];exact l u g
  have Nn:L.la=L.la.set i (L.OG i):=by
   apply qA;intro j;rw[tb];split
   .rename_i e;subst e;have hi:i<L.la.length:=by rw[h.ll];exact (qp.1 x).1
    rw[pN hi];unfold Hm.OG;rw[sY,pE hi];rfl
   rfl
  have F:=HW (d:=d) (b:=f.blk) p.1 p.2<|some .pn;rw[hd] at F;simp at F;have v:f.pins+1=(Oz (upd d t f.blk<|some .pn) f.blk:Int):=by rw[F,((h.fr i f x).in' z).2];omega
  have H:f.st=1->((some TL.pn:cU)=none\/(some TL.pn:cU)=some .ld\/(some TL.pn:cU)=some .pn)/\∃u,upd d t f.blk (some .pn) u f.blk=some .ld:=λq=>by
   refine⟨.inr<|.inr I,?_⟩;obtain⟨u,g⟩:=((h.fr i f x).s1 q).2;refine⟨u,?_⟩;rw[FP<|λe=>by rw[e,hd] at g;cases g];exact g
  have s:∀u c,upd d t f.blk (some .pn) u c=some .ld↔Cw c L.rd=some u:=λu c=>by
   by_cases e:u=t/\c=f.blk
   .rw[e.1,e.2,C2,<-h.rd,hd];simp
   rw[show upd d t f.blk (some .pn) u c=d u c from pQ e];exact h.rd u c
  rw[XkP J w hf K];by_cases q:f.st=2
  .rw[pN q];refine .inl ⟨.inl rfl,?_⟩;refine h.fO (k:=i) (y:={f with pins:=f.pins+1,ref:=true}) (m:=some .pn) x z I I p Nn A (h.Vp i) v H (λ_=>A2) (λu c=>?_) s h.rk a;show (u,c)∈L.M.loads↔_
   by_cases e:u=t/\c=f.blk
   .rw[e.1,e.2,C2,h.Ud,hd];constructor
    .exact λn=>by cases n.1
    exact λn=>(h.kY n.2 ⟨i,f,x,rfl,q⟩).elim
   rw[show upd d t f.blk (some .pn) u c=d u c from pQ e];exact h.Ud u c
  rw[pQ q];have D:f.st=1:=A1;refine .inl ⟨.inr rfl,?_⟩;refine h.fO (k:=i) (y:={f with pins:=f.pins+1,ref:=true}) (m:=some .pn) x z I I p Nn A (h.Vp i) v H (λ_=>A2) (λu c=>?_) s h.rk a;show (u,c)∈L.M.loads++[(t,f.blk)]↔_
  rw[rB,rU];by_cases e:u=t/\c=f.blk
  .rw[e.1,e.2,C2];exact⟨λ_=>⟨rfl,i,f,x,rfl,D⟩,λ_=>.inr rfl⟩
  rw[show upd d t f.blk (some .pn) u c=d u c from pQ e,<-h.Ud u c];exact⟨λn=>n.resolve_right<|λo=>e<|by cases o;exact⟨rfl,rfl⟩,.inl⟩
def lj (h:HI L d cl wt) {i:Nat} (hi:i<L.M.fr.length):L.la=L.la.set i (L.OG i):=by
 apply qA;intro j;rw[tb];split
 .rename_i e;subst e;have hi:i<L.la.length:=by rw[h.ll];exact hi
  rw[pN hi];unfold Hm.OG;rw[sY,pE hi];rfl
 rfl
def HI.load (h:HI L d cl wt) {t b:Int} (hd:d t b=some .ld) (nd:Nd):HI (L.load b nd) (upd d t b<|some .pn) cl wt/\(L.load b nd).M.on b 2:=by
 have A:=(h.has t b xh).1
 have w:L.M.on b 1:=by
  rcases (h.has t b xh).2 with w|⟨i,f,a,r,o⟩
  .exact w
  exact absurd (by rw[r];exact hd)<|(h.fr i f a).s2 o t
 obtain⟨i,f,a,r,o⟩:=w;have n:=(qp.1 a).1;have C:=h.Me a r o VY
 have e:L.load b nd=⟨⟨L.M.fr.set i {f with st:=2,nd:=nd},L.M.loads.filter<|λq=>!decide (q.2=b),L.M.line,L.M.hand⟩,L.s,L.la,BY b L.rd⟩:=by
  unfold Hm.load Mo.fill;rw[C];dsimp only;rw[LS a];rfl
 rw[e];subst r;have l:=h.others a<|.inl o;have G:=(h.fr i f a).s1 o
 have p:∀u,d u f.blk=some .ld->u=t:=λu k=>by
  have x:=(h.rd u f.blk).1 k;rw[(h.rd t f.blk).1 hd] at x;cases x;rfl
 have m:∀c s,Mo.on ⟨L.M.fr.set i {f with st:=2,nd:=nd},L.M.loads.filter<|λq=>!decide (q.2=f.blk),L.M.line,L.M.hand⟩ c s↔(f.blk=c/\2=s)\/∃j g,j≠i/\L.M.fr[j]?=some g/\g.blk=c/\g.st=s:=λc s=>UD (M:=L.M) n
 refine⟨⟨QQ (la:=λi=>L.OG i) (la':=λi=>L.OG i) h.fr n ?_ (λ_ _=>I)<|λj g hj y x u=>NY<|l j g hj y x,by show L.la.length=(L.M.fr.set i _).length;rw[sI];exact h.ll,h.Vp,QR h.uni n<|λ_=>l,λu c k=>?_,λu c=>?_,λu c=>?_,JM h.rk,h.line,h.ln,λu=>?_⟩,(m f.blk 2).2 yD⟩
 .obtain⟨D,E⟩:=(h.fr i f a).in' (.inl o);refine⟨λ_=>⟨λu k=>?_,?_⟩,λF=>absurd VZ F,λz=>(by cases z),λ_ u=>?_⟩
  .by_cases e:u=t
   .subst e;show PS _ _ (upd d u f.blk _ u f.blk)
    rw[C2];have:=D u k;rw[hd] at this;exact this
   show PS _ _ (upd d t f.blk _ u f.blk)
   rw[FP e];exact D u k
  .have B:=HW (d:=d) (b:=f.blk) A.1 A.2 (some .pn);rw[hd] at B;simp at B;show f.pins=(Oz (upd d t f.blk<|some .pn) f.blk:Int)
   rw[B];exact E
  show upd d t f.blk (some .pn) u f.blk≠_
  by_cases e:u=t
  .subst e;rw[C2];decide
  rw[FP e];exact λk=>e<|p u k
 .show _/\(Mo.on _ c 1\/Mo.on _ c 2)
  rw[m,m];by_cases ec:c=f.blk
  .subst ec;refine⟨?_,.inr yD⟩;by_cases e:u=t
   .rw[e];exact A
   rw[FP e] at k;exact (h.has u _ k).1
  rw[NY ec] at k;have:=h.has u c k;refine⟨this.1,this.2.imp ?_ ?_⟩
  .exact ZBC
  exact ZBC
 .show (u,c)∈L.M.loads.filter _↔_/\Mo.on _ c 1
  rw[m,tc];by_cases ec:c=f.blk
  .subst ec;constructor
   .rintro⟨_,x⟩;simp at x
   rintro⟨_,⟨_,x⟩|⟨j,g,hj,y,x,z⟩⟩
   .cases x
   exact absurd x<|l j g hj y<|.inl z
  rw[NY ec,h.Ud u c];constructor
  .rintro⟨⟨x,j,g,y,z,v⟩,_⟩;exact⟨x,.inr ⟨j,g,λe=>ec (by subst e;rw[a] at y;cases y;exact z.symm),y,z,v⟩⟩
  rintro⟨x,⟨z,_⟩|⟨j,g,_,y,z,v⟩⟩
  .exact absurd z.symm ec
  exact⟨⟨x,j,g,y,z,v⟩,by simpa using ec⟩
 .show _↔Cw c (BY f.blk L.rd)=_
  by_cases ec:c=f.blk
  .subst ec;rw[Fs h.rk];constructor
   .intro x;by_cases e:u=t
    .subst e;rw[C2] at x;cases x
    rw[FP e] at x;exact absurd (p u x) e
   intro x;cases x
  rw[IT<|rQ ec,NY ec];exact h.rd u c
 show (L.M.put i _).claims u=_
 rw[GL a J<|by show (2:Int)≠3;decide];exact h.cl u
def HI.take (h:HI L d cl wt) {t b:Int} (hd:d t b=some .pn) (hm:L.may t) (w:Bool):HI (L.take (L.fi b) t w) (upd d t b<|some (if w=true then .wq else .rq)) cl wt:=by
 have o:=h.fM hd hm;have g:=(h.has t b xh).1;obtain⟨i,f,k,A,p,_,l,_⟩:=h.Xw o;subst A;obtain⟨q,v⟩:=(h.fr i f k).in'<|.inr p
 have e:L.take (L.fi f.blk) t w=⟨⟨L.M.fr.set i f,L.M.loads,L.M.line,L.M.hand⟩,L.s,L.la.set i<|Lt.UL (L.OG i) t w,L.rd⟩:=by
  unfold Hm.take;rw[l]
  have:L.M.fr.set i f=L.M.fr:=by
   apply qA;intro j;rw[tb];split
   .rename_i e;subst e;rw[pN (qp.1 k).1,k]
   rfl
  rw[this]
 rw[e];obtain⟨n,r⟩:=h.Vp i;have z:∀x:TL,(some (if w=true then TL.wq else TL.rq):cU)=some x->x≠.ld/\x≠.pn:=λx y=>by cases w<;>cases y<;>decide
 refine h.fO k (.inr p) I I g I (λu a=>?_) ⟨n+1,Lt.Xdr r t w⟩ ?_ (λB=>J) (λ_ e=>(z _ e).1 I) (λu c=>?_) (λu c=>?_) h.rk Z8
 .by_cases e:u=t
  .subst e;rw[C2];refine PS.XlJ a r.toOk0 ?_;have:=q u a;rw[hd] at this;exact this
  rw[FP e];exact PS.take a g.1 e<|q u a
 .have m:=HW (d:=d) (b:=f.blk) g.1 g.2 (some (if w=true then TL.wq else TL.rq));rw[hd] at m;simp at m;rw[m];exact v
 .by_cases e:u=t/\c=f.blk
  .rw[e.1,e.2,C2,h.Ud];exact⟨λy=>(h.kY y.2 o).elim,λy=>((z _ y.1).2 I).elim⟩
  rw[show upd d t f.blk (some (if w=true then TL.wq else TL.rq)) u c=d u c from pQ e];exact h.Ud u c
 by_cases e:u=t/\c=f.blk
 .rw[e.1,e.2,C2,<-h.rd,hd];exact⟨λy=>((z _ y).1 rfl).elim,λy=>(by cases y)⟩
 rw[show upd d t f.blk (some (if w=true then TL.wq else TL.rq)) u c=d u c from pQ e];exact h.rd u c
def HI.leave (h:HI L d cl wt) {t b:Int} {m:TL} (hd:d t b=some m) (o:m≠.ld) (w:m≠.pn):HI (L.leave (L.fi b) t b) (upd d t b none) cl wt:=by
 have p:=h.ZI hd o w;have z:=(h.has t b xh).1;obtain⟨i,f,j,B,q,k,a,_⟩:=h.Xw p;subst B;obtain⟨A,C⟩:=(h.fr i f j).in'<|.inr q;have v:=V0 z.1 z.2 (d:=d) (b:=f.blk) xh
 have e:L.leave (L.fi f.blk) t f.blk=⟨⟨L.M.fr.set i {f with pins:=f.pins-1},L.M.loads,L.M.line,L.M.hand⟩,L.s,L.la.set i (Lt.TT (L.OG i) t).2,L.rd⟩:=by
  unfold Hm.leave Mo.Uf Mo.ready;rw[a,k];dsimp only;rw[LS j,pQ J];rfl
 rw[e];obtain⟨n,l⟩:=h.Vp i;refine h.fO (y:={f with pins:=f.pins-1}) j (.inr q) I I z I (λu g=>?_) ⟨n,Lt.XcM l t⟩ ?_ (λD=>J) (λ_=>K) (λu c=>?_) (λu c=>?_) h.rk ⟨h.line,h.ln⟩
 .by_cases e:u=t
  .subst e;rw[C2];exact PS.XiK g l
  rw[FP e];exact PS.drop g z.1 l e<|A u g
 .have r:=HW (d:=d) (b:=f.blk) z.1 z.2 none;rw[hd] at r;simp at r;show f.pins-1=_
  omega
 .by_cases e:u=t/\c=f.blk
  .rw[e.1,e.2,C2,h.Ud];exact⟨λx=>(h.kY x.2 p).elim,λx=>(by cases x.1)⟩
  rw[show upd d t f.blk none u c=d u c from pQ e];exact h.Ud u c
 by_cases e:u=t/\c=f.blk
 .rw[e.1,e.2,C2,<-h.rd,hd];exact⟨λx=>(by cases x),λx=>absurd (Option.some.inj x) o⟩
 rw[show upd d t f.blk none u c=d u c from pQ e];exact h.rd u c
def HI.up (h:HI L d cl wt) {t b:Int} {m m':TL} (hd:d t b=some m) (n:m≠.ld) (v:m≠.pn) (l:m'≠.ld) (r:m'≠.pn) (z:PS (L.OG<|L.fi b) t<|some m'):HI L (upd d t b<|some m') cl wt:=by
 have o:=h.ZI hd n v;have g:=(h.has t b xh).1;obtain⟨i,f,y,C,p,B,a,_⟩:=h.Xw o;subst C;rw[a] at z;obtain⟨A,q⟩:=(h.fr i f y).in'<|.inr p
 have e:L=⟨⟨L.M.fr.set i f,L.M.loads,L.M.line,L.M.hand⟩,L.s,L.la,L.rd⟩:=by
  have:L.M.fr.set i f=L.M.fr:=by
   apply qA;intro j;rw[tb];split
   .rename_i e;subst e;rw[pN (qp.1 y).1,y]
   rfl
  rw[this]
 rw[e];refine h.fO y (.inr p) I I g (lj h (qp.1 y).1) (λu w=>?_) (h.Vp i) ?_ (λl=>J) (λ_ e=>l<|Option.some.inj e) (λu c=>?_) (λu c=>?_) h.rk Z8
 .by_cases e:u=t
  .subst e;rw[C2];exact z
  rw[FP e];exact A u w
 .have k:=HW (d:=d) (b:=f.blk) g.1 g.2 (some m');rw[hd] at k;simp at k;rw[k];exact q
 .by_cases e:u=t/\c=f.blk
  .rw[e.1,e.2,C2,h.Ud];exact⟨λx=>(h.kY x.2 o).elim,λx=>absurd (Option.some.inj x.1) r⟩
  rw[show upd d t f.blk (some m') u c=d u c from pQ e];exact h.Ud u c
 by_cases e:u=t/\c=f.blk
 .rw[e.1,e.2,C2,<-h.rd,hd];exact⟨λx=>absurd (Option.some.inj x) l,λx=>absurd (Option.some.inj x) n⟩
 rw[show upd d t f.blk (some m') u c=d u c from pQ e];exact h.rd u c
def HI.N7 (h:HI L d cl wt) {b:Int} (l:L.M.on b 2) (nd:Nd):HI (L.N7 b nd) d cl wt:=by
 obtain⟨i,f,x,m,k,z,c,_⟩:=h.Xw l
 have e:L.N7 b nd=⟨⟨L.M.fr.set i {f with dirty:=true,nd:=nd},L.M.loads,L.M.line,L.M.hand⟩,L.s,L.la,L.rd⟩:=by
  unfold Hm.N7 Mo.N7 Mo.ready;rw[z];dsimp only;rw[LS x];rfl
 rw[e];have y:=(qp.1 x).1;refine h.l9 (by rw[sI]) (λj g a=>?_) (λu=>?_) Z8
 .rcases (BN y).1 a with⟨rfl,rfl⟩|⟨_,a⟩
  .exact⟨f,x,.inl ⟨.inr k,rfl,rfl,rfl⟩⟩
  refine⟨g,a,?_⟩;exact ZAt
 show (L.M.put i _).claims u=_
 rw[GL x J<|by show f.st≠3;omega];exact h.cl u
def HI.claim (h:HI L d cl wt) {t:Int} (hm:L.may t) (z:wt t=some (-1)) {wt':Int->cf} (x:∀u,u≠t->wt' u=wt u) :
 ((L.claim t).1=true/\HI (L.claim t).2 d (λu=>if u=t then cl t+1 else cl u) wt')\/((L.claim t).1=false/\HI (L.claim t).2 d cl wt):=by
 have c:=h.SY hm z;unfold Hm.claim Mo.claim;rw[c];simp only[Bool.true_eq_false,r9];cases hk:L.M.takes t with
 |none=>exact .inr ⟨rfl,h.fr,h.ll,h.Vp,h.uni,h.has,h.Ud,h.rd,h.rk,(Ku h z).1,(Ku h z).2,h.cl⟩
 |some k =>
  obtain⟨f,b,m⟩:=Kr hk;have a:=(qp.1 b).1;refine .inl ⟨rfl,?_⟩;refine h.l9 (fr:=L.M.fr.set k ⟨3,-1,t,1,false,false,nd0⟩) (by rw[sI]) (λj g i=>?_) (λu=>?_)<|Xbr h x
  .rcases (BN a).1 i with⟨rfl,rfl⟩|⟨_,i⟩
   .exact⟨f,b,.inr ⟨λ_=>J,ZHe⟩⟩
   refine⟨g,i,?_⟩;exact ZAt
  have:=JQ (y:=⟨3,-1,t,1,false,false,nd0⟩) b u;rw[K8 J,h.cl u] at this;show (L.M.put k _).claims u=_
  by_cases e:u=t
  .subst e;rw[show isC u (⟨3,-1,u,1,false,false,nd0⟩:Vw)=true from Ez.2 ⟨rfl,rfl⟩] at this;rw[pN rfl];simpa using this
  rw[show isC u (⟨3,-1,t,1,false,false,nd0⟩:Vw)=false from rM.2 (λl=>e (Ez.1 l).2.symm)] at this;rw[pQ e];simpa using this
def HI.give (h:HI L d cl wt) (t:Int):HI (L.give t) d (λu=>if u=t then 0 else cl u) wt:=by
 refine h.l9 (fr:=L.M.fr.map<|λf=>if isC t f=true then Cy else f) (by rw[qY]) (λj g y=>?_) (λu=>?_) Z8
 .rw[qq] at y;obtain⟨f,z,e⟩:=rv.1 y;refine⟨f,z,?_⟩;by_cases hc:isC t f=true
  .rw[pN hc] at e;subst e;have:=(Ez.1 hc).1;exact .inr ⟨λ_=>J,K⟩
  rw[pQ hc] at e;exact zj
 rw[List.countP_map];by_cases e:u=t
 .subst e;rw[pN rfl,List.countP_eq_zero];intro f _;show ¬isC u (if isC u f=true then Cy else f)=true
  split
  .exact λe=>by have:=(Ez.1 e).1;exact absurd this K
  assumption
 rw[pQ e,<-h.cl u];refine List.countP_congr<|λf _=>?_
 show isC u (if isC t f=true then Cy else f)=true↔isC u f=true
 split
 .rename_i hc;constructor
  .intro x;exact absurd (Ez.1 x).1 K
  intro x;exact absurd ((Ez.1 x).2.symm.trans (Ez.1 hc).2) e
 rfl
def HI.name (h:HI L d cl wt) {t b:Int} (p:0<=t/\t<8) (A:1<=cl t) (q:Ry b) (g:L.M.find b=none) (nd:Nd):HI (L.name t b nd) d (λu=>if u=t then cl t-1 else cl u) wt/\(L.name t b nd).M.on b 2/\(∀c s,s=1\/s=2->((L.name t b nd).M.on c s↔(c=b/\s=2)\/L.M.on c s)):=by
 have i:=h.zK g
 obtain⟨k,n⟩:∃k,B8 (isC t) L.M.fr=some k:=by
  cases hx:B8 (isC t) L.M.fr with
  |some k=>exact⟨k,rfl⟩
  |none =>
   exfalso;have:=Fp hx;have v:=h.cl t;have:L.M.claims t=0:=by unfold Mo.claims;rw[List.countP_eq_zero];exact λf g=>by rw[this f g];decide
   omega
 obtain⟨f,x,l⟩:=Hg n;obtain⟨w,r⟩:=Ez.1 l
 have e:L.name t b nd=⟨⟨L.M.fr.set k ⟨2,b,0,0,true,true,nd⟩,L.M.loads,L.M.line,L.M.hand⟩,L.s,L.la,L.rd⟩:=by
  unfold Hm.name Mo.name;rw[q,g,n];rfl
 rw[e]
 have z:upd d t b none=d:=by
  have:=Xkv (d:=d) (t:=t) (b:=b);rwa[i t] at this
 refine⟨?_,(QS (M:=L.M) (y:=⟨2,b,0,0,true,true,nd⟩) x J<|.inr I).2 yD,λc s j=>?_⟩
 .have:=h.Xdj (y:=⟨2,b,0,0,true,true,nd⟩) (m:=none) (t:=t) (s':=L.s) (hd:=L.M.hand) (cl':=λu=>if u=t then cl t-1 else cl u) x J VZ g p (.inr ⟨rfl,rfl⟩) rfl (λu c=>by rw[z];exact h.rd u c) h.rk (λu=>?_) Z8
  .rw[z] at this;exact this
  have:=JQ (y:=⟨2,b,0,0,true,true,nd⟩) x u;rw[show isC u (⟨2,b,0,0,true,true,nd⟩:Vw)=false from K8 (by show (2:Int)≠3;decide),h.cl u] at this;by_cases e:u=t
  .subst e;rw[l] at this;rw[pN rfl];simp at this;omega
  rw[show isC u f=false from rM.2 (λo=>e<|(Ez.1 o).2.symm.trans r)] at this;rw[pQ e];simpa using this
 rw[show Mo.on ⟨L.M.fr.set k ⟨2,b,0,0,true,true,nd⟩,L.M.loads,L.M.line,L.M.hand⟩ c s↔_ from QS (M:=L.M) (y:=⟨2,b,0,0,true,true,nd⟩) x J j];exact or_congr ⟨λa=>⟨a.1.symm,a.2.symm⟩,λa=>⟨a.1.symm,a.2.symm⟩⟩ Iff.rfl
def HI.ay (h:HI L d cl wt) (s:OH):HI {L with s:=s} d cl wt:=⟨h.fr,h.ll,h.Vp,h.uni,h.has,h.Ud,h.rd,h.rk,h.line,h.ln,h.cl⟩
def HI.wt' (h:HI L d cl wt) {wt':Int->cf} (x:∀q∈L.M.line,wt' q.1=some q.2):HI L d cl wt':=⟨h.fr,h.ll,h.Vp,h.uni,h.has,h.Ud,h.rd,h.rk,x,h.ln,h.cl⟩
end
def Cb (d:DM) (t:Int) (g:Int->cU):DM:=λu b=>if u=t then g b else d u b
def CW (wt:Int->cf) (t:Int) (x:cf):Int->cf:=λu=>if u=t then x else wt u
def Dx (cl:Int->Nat) (t:Int) (x:Nat):Int->Nat:=λu=>if u=t then x else cl u
section
variable {d:DM} {t:Int} {g:Int->cU} {wt:Int->cf} {cl:Int->Nat}
def BI (b:Int):Cb d t g t b=g b:=pN rfl
def GM {u:Int} (h:u≠t) (b:Int):Cb d t g u b=d u b:=pQ h
def Hl {m:cU}:upd (Cb d t g) t b m=Cb d t (λc=>if c=b then m else g c):=by
 funext u c;unfold upd Cb;by_cases hu:u=t
 .subst hu;by_cases hc:c=b
  .subst hc;simp
  simp[hc]
 simp[hu]
def Mi {x:cf}:CW wt t x t=x:=pN rfl
def QT {x y:cf}:∀u,u≠t->CW wt t x u=CW wt t y u:=λu h=>by unfold CW;rw[pQ h,pQ h]
def Jb {x:Nat}:Dx cl t x t=x:=pN rfl
def N1 {x y:Nat}:(λu=>if u=t then y else Dx cl t x u)=Dx cl t y:=by
 funext u;unfold Dx;split<;>rfl
def Xbs:Dx cl t (cl t)=cl:=by funext u;unfold Dx;split<;>simp_all
def Xbt:Cb d t (d t)=d:=by funext u b;unfold Cb;split<;>simp_all
def Xbu:CW wt t (wt t)=wt:=by funext u;unfold CW;split<;>simp_all
end
def Xbv (l:bo):∀n,n<=l.length->((List.range n).filter<|λi=>l.getD i false).length=(l.take n).countP id
 |0,_=>j
 |n+1,h=>by
  obtain⟨u,x⟩:=gE l n
  rw[Xbz x,pK,Xbv l n J,sH,x,List.countP_append]
  cases u<;>simp
def N3 (s:OH):s.left+s.us.countP id=s.us.length:=by
 have h:=Xbv s.us s.us.length<|qb _;rw[tg] at h;have x:s.us.countP id<=s.us.length:=List.countP_le_length;unfold OH.left OH.used;rw[h];omega
def Xbw (h:1<=s.left):∃k,s.fr=some k:=by
 cases hf:s.fr with
 |some k=>exact⟨k,rfl⟩
 |none =>
  exfalso;have x:=Fp<|show B8 (λu=>!u) s.us=none from hf
  have z:s.us.countP id=s.us.length:=by
   rw[List.countP_eq_length];intro u y;have:=x u y;cases u
   .cases this
   rfl
  have:=N3 s;omega
def Xjp (h:s.fr=some k):((s.alloc k).put k OX).left+1=s.left:=by
 have b:=N3 s;have a:=N3<|(s.alloc k).put k OX;have x:=HX id (l:=s.us) (k:=k) (y:=true) (Np h).2;have z:((s.alloc k).put k OX).us=s.us.set k true:=rfl;rw[z,sI] at a;simp at x;omega
def al1 (h:1<=s.left):∃k,s.fr=some k/\s.al 1=([k],(s.alloc k).put k OX):=by
 obtain⟨k,x⟩:=Xbw h;exact⟨k,x,by rw[Qu (n:=0) x];rfl⟩
def al2 (h:2<=s.left):∃k j,s.fr=some k/\((s.alloc k).put k OX).fr=some j/\s.al 1=([k],(s.alloc k).put k OX)/\s.al 2=([k,j],(((s.alloc k).put k OX).alloc j).put j OX):=by
 obtain⟨k,y,x⟩:=al1 (s:=s) J;have a:=Xjp y;obtain⟨j,hj⟩:=Xbw (s:=(s.alloc k).put k OX) J;refine⟨k,j,y,hj,x,?_⟩;have z:(s.al 1).2.fr=some j:=by rw[x];exact hj
 rw[Qu z,x];rfl
def BQ (N:Nat->Nd) (b:Nat) (nd:Nd):Nat->Nd:=λc=>if c=b then nd else N c
def Jc (N:Nat->Nd) (b:Nat) (nd:Nd):BQ N b nd b=nd:=pN rfl
def CK {b c:Nat} {nd:Nd} (h:c≠b):BQ N b nd c=N c:=pQ h
abbrev Hm.U (L:Hm) (b:Nat):Prop:=L.s.us[b]?=some true
structure HN (L:Hm) (N:Nat->Nd):Prop where
 nd:∀(i:Nat) (f:Vw),L.M.fr[i]?=some f->f.st=2->f.nd=N f.blk.toNat
 us:∀(i:Nat) (f:Vw),L.M.fr[i]?=some f->f.st=1\/f.st=2->0<=f.blk/\L.U f.blk.toNat
 dk:∀b:Nat,L.U b->(∃(i:Nat) (f:Vw),L.M.fr[i]?=some f/\f.st=2/\f.blk=(b:Int)/\f.dirty=true)\/∃bk,L.s.bl[b]?=some bk/\IE bk.l (N b)
def HN.same {L:Hm} (h:HN L N) {fr:List Vw} {lo ln:List<|Int×Int} {hd:Int} {la:List Lt.La} {rd:List<|Int×Int}
 (j:∀(i:Nat) (g:Vw),fr[i]?=some g->g.st=1\/g.st=2->(∃f:Vw,L.M.fr[i]?=some f/\f.st=g.st/\f.blk=g.blk/\f.nd=g.nd)\/(g.st=1/\0<=g.blk/\L.U g.blk.toNat))
 (k:∀(i:Nat) (f:Vw),L.M.fr[i]?=some f->f.st=2->∃g:Vw,fr[i]?=some g/\g.st=2/\g.blk=f.blk/\g.dirty=f.dirty):HN ⟨⟨fr,lo,ln,hd⟩,L.s,la,rd⟩ N:=by
 refine⟨λi g c x=>?_,λi g c x=>?_,λb l=>?_⟩
 .rcases j i g c (.inr x) with⟨f,a,z,y,d⟩|⟨e,_⟩
  .rw[<-d,<-y];exact h.nd i f a<|by rw[z];exact x
  omega
 .rcases j i g c x with⟨f,a,z,y,d⟩|⟨_,e⟩
  .rw[<-y];exact h.us i f a<|by rw[z];exact x
  exact e
 refine (h.dk b l).imp (fun⟨i,f,a,x,hb2,hd⟩=>?_) id;obtain⟨g,c,z,y,d⟩:=k i f a x;exact⟨i,g,c,z,by rw[y];exact hb2,by rw[d];exact hd⟩
section
variable {L:Hm} {N:Nat->Nd} {d:DM} {cl:Int->Nat} {wt:Int->cf}
def HN.set1 (h:HN L N) {k:Nat} {f y:Vw} (a:L.M.fr[k]?=some f) (d:y.st=f.st) (c:y.blk=f.blk) (j:y.nd=f.nd) (l:y.dirty=f.dirty) {lo ln:List<|Int×Int} {hd:Int} {la:List Lt.La} {rd:List<|Int×Int}:HN ⟨⟨L.M.fr.set k y,lo,ln,hd⟩,L.s,la,rd⟩ N:=by
 have x:=(qp.1 a).1;refine h.same (λi g z b=>?_)<|λi g z b=>?_
 .rcases (BN x).1 z with⟨rfl,rfl⟩|⟨_,z⟩
  .exact .inl ⟨f,a,d.symm,c.symm,j.symm⟩
  exact .inl ⟨g,z,rfl,rfl,rfl⟩
 by_cases e:i=k
 .subst e;rw[a] at z;cases z
  exact⟨y,(BN x).2 yD,by rw[d];exact b,c,l⟩
 exact⟨g,(BN x).2<|.inr ⟨e,z⟩,b,rfl,rfl⟩
def HN.set0 (h:HN L N) {k:Nat} {f y:Vw} (b:L.M.fr[k]?=some f) (c:f.st≠2) (d:¬(y.st=1\/y.st=2)\/y.st=1/\0<=y.blk/\L.U y.blk.toNat) {lo ln:List<|Int×Int} {hd:Int} {la:List Lt.La} {rd:List<|Int×Int}:HN ⟨⟨L.M.fr.set k y,lo,ln,hd⟩,L.s,la,rd⟩ N:=by
 have z:=(qp.1 b).1;refine h.same (λi g x a=>?_)<|λi g x a=>?_
 .rcases (BN z).1 x with⟨rfl,rfl⟩|⟨_,x⟩
  .exact d.elim (λe=>absurd a e) .inr
  exact .inl ⟨g,x,rfl,rfl,rfl⟩
 refine⟨g,(BN z).2<|.inr ⟨λe=>?_,x⟩,a,rfl,rfl⟩;subst e;rw[b] at x;cases x;exact c a
def HN.lf (h:HN L N) {lo ln:List<|Int×Int} {hd:Int} {la:List Lt.La} {rd:List<|Int×Int}:HN ⟨⟨L.M.fr,lo,ln,hd⟩,L.s,la,rd⟩ N:=h.same (λi g y _=>.inl ⟨g,y,rfl,rfl,rfl⟩)<|λi f x z=>⟨f,x,z,rfl,rfl⟩
def HN.pin (h:HN L N) {t b:Int} (d:0<=b/\L.U b.toNat):HN (L.pin t b).2 N:=by
 unfold Hm.pin Mo.pin;split
 .exact h
 cases hf:L.M.find b with
 |none =>
  dsimp only;cases hk:L.M.takes t with
  |none=>exact h.lf
  |some k =>
   obtain⟨f,z,a⟩:=Kr hk;exact h.set0 z J (.inr ⟨rfl,d⟩)
 |some i =>
  obtain⟨f,x,c,e,g⟩:=Hj hf;subst g;dsimp only;split
  .exact ZDH
  exact ZDH
def HN.load (h:HN L N) (hi:HI L d cl wt) (b:Nat):HN (L.load b<|N b) N:=by
 unfold Hm.load Mo.fill;cases hf:L.M.Me b 1 with
 |none=>exact h.lf
 |some k =>
  obtain⟨f,a,j,m,l⟩:=Mh hf;have y:=(qp.1 a).1;dsimp only;rw[l];refine⟨λi g x z=>?_,λi g x z=>?_,λc n=>?_⟩
  .rcases (BN y).1 x with⟨rfl,rfl⟩|⟨_,x⟩
   .show N b=N f.blk.toNat
    rw[j];rfl
   exact h.nd i g x z
  .rcases (BN y).1 x with⟨rfl,rfl⟩|⟨_,x⟩
   .exact h.us i f a<|.inl m
   exact h.us i g x z
  exact zP
def HN.take (h:HN L N) (i:Nat) (t:Int) (w:Bool):HN (L.take i t w) N:=h.lf
def HN.leave (h:HN L N) (i:Nat) (t b:Int):HN (L.leave i t b) N:=by
 unfold Hm.leave Mo.Uf Mo.ready;cases hf:L.M.Me b 2 with
 |none=>exact h.lf
 |some k =>
  obtain⟨f,x,a,c,z⟩:=Mh hf;dsimp only;rw[z];split
  .exact h.lf
  exact h.set1 (y:={f with pins:=f.pins-1}) x I I I I
def HN.claim (h:HN L N) (t:Int):HN (L.claim t).2 N:=by
 unfold Hm.claim Mo.claim;split
 .exact h
 cases hk:L.M.takes t with
 |none=>exact h.lf
 |some k =>
  obtain⟨f,x,y⟩:=Kr hk;exact h.set0 x J<|.inl ZHe
def HN.give (h:HN L N) (t:Int):HN (L.give t) N:=by
 refine h.same (fr:=L.M.fr.map<|λf=>if isC t f=true then Cy else f) (λi g z y=>?_)<|λi f x y=>⟨f,?_,y,rfl,rfl⟩
 .rw[qq] at z;obtain⟨f,x,e⟩:=rv.1 z;split at e
  .subst e;exact absurd y K
  subst e;exact .inl ⟨f,x,rfl,rfl,rfl⟩
 rw[qq,x];show some (if isC t f=true then Cy else f)=some f
 rw[pQ (λe=>by have:=(Ez.1 e).1;omega)]
def HN.N7 (h:HN L N) (hi:HI L d cl wt) {b:Nat} (p:L.M.on b 2) (nd:Nd):HN (L.N7 b nd) (BQ N b nd):=by
 obtain⟨k,f,a,o,m,n,_⟩:=hi.Xw p;have y:=(qp.1 a).1
 have e:L.N7 b nd=⟨⟨L.M.fr.set k {f with dirty:=true,nd:=nd},L.M.loads,L.M.line,L.M.hand⟩,L.s,L.la,L.rd⟩:=by
  unfold Hm.N7 Mo.N7 Mo.ready;rw[n];dsimp only;rw[LS a];rfl
 rw[e];refine⟨λi g x z=>?_,λi g x z=>?_,λc q=>?_⟩
 .rcases (BN y).1 x with⟨rfl,rfl⟩|⟨l,x⟩
  .show nd=BQ N b nd f.blk.toNat
   rw[o];exact (Jc N b nd).symm
  have:=h.us i g x (.inr z);rw[CK<|λj=>hi.others a (.inr m) i g l x (.inr z) J];exact h.nd i g x z
 .rcases (BN y).1 x with⟨rfl,rfl⟩|⟨_,x⟩
  .exact h.us i f a<|.inr m
  exact h.us i g x z
 by_cases j:c=b
 .subst j;exact .inl ⟨k,_,(BN y).2<|.inl ⟨rfl,rfl⟩,m,o,rfl⟩
 rw[CK j];refine (h.dk c q).imp (fun⟨i,g,x,h1,z,h3⟩=>⟨i,g,(BN y).2<|.inr ⟨λe=>?_,x⟩,h1,z,h3⟩) id;subst e;rw[a] at x;cases x;omega
def HN.name (h:HN L N) (hi:HI L d cl wt) {t:Int} (n:1<=cl t) {b:Nat} (r:Ry b) (j:L.M.find b=none) (p:L.U b) (nd:Nd):HN (L.name t b nd) (BQ N b nd):=by
 obtain⟨k,m⟩:∃k,B8 (isC t) L.M.fr=some k:=by
  cases hx:B8 (isC t) L.M.fr with
  |some k=>exact⟨k,rfl⟩
  |none =>
   exfalso;have:=Fp hx;have z:=hi.cl t;have:L.M.claims t=0:=by unfold Mo.claims;rw[List.countP_eq_zero];exact λf j=>by rw[this f j];decide
   omega
 obtain⟨f,a,o⟩:=Hg m;obtain⟨v,u⟩:=Ez.1 o
 have e:L.name t b nd=⟨⟨L.M.fr.set k ⟨2,b,0,0,true,true,nd⟩,L.M.loads,L.M.line,L.M.hand⟩,L.s,L.la,L.rd⟩:=by
  unfold Hm.name Mo.name;rw[r,j,m];rfl
 rw[e];have y:=(qp.1 a).1;refine⟨λi g x z=>?_,λi g x z=>?_,λc n=>?_⟩
 .rcases (BN y).1 x with⟨rfl,rfl⟩|⟨q,x⟩
  .exact (Jc N b nd).symm
  have:=h.us i g x (.inr z);rw[CK<|λl=>Hk j x (.inr z) J];exact h.nd i g x z
 .rcases (BN y).1 x with⟨rfl,rfl⟩|⟨_,x⟩
  .exact⟨by show (0:Int)<=(b:Int);omega,p⟩
  exact h.us i g x z
 by_cases l:c=b
 .subst l;exact .inl ⟨k,_,(BN y).2 yD,rfl,rfl,rfl⟩
 rw[CK l];exact zP
def HN.alloc (h:HN L N) (y:L.s.bl.length=L.s.us.length) {k:Nat} (f:L.s.fr=some k):HN {L with s:=(L.s.alloc k).put k OX} (BQ N k Vq):=by
 obtain⟨z,b⟩:=Np f
 have d:∀c:Nat,((L.s.us.set k true)[c]?=some true)↔c=k\/L.U c:=λc=>by
  rw[BN z];constructor
  .rintro (⟨e,_⟩|⟨_,e⟩)
   .exact .inl e
   exact .inr e
  intro e;by_cases e2:c=k
  .exact .inl ⟨e2,rfl⟩
  exact .inr ⟨e2,e.resolve_left e2⟩
 refine⟨λi g a x=>?_,λi g a x=>?_,λc j=>?_⟩
 .have:=(h.us i g a<|.inr x).2;rw[CK<|λe=>by unfold Hm.U at this;rw[e,b] at this;cases this];exact h.nd i g a x
 .have:=h.us i g a x;exact⟨this.1,(d _).2<|.inr this.2⟩
 by_cases e:c=k
 .subst e;refine .inr ⟨OX,?_,?_⟩
  .show ((L.s.bl.set c Bk.zero).set c OX)[c]?=_
   rw[tE<|by rw[sI,y];exact z]
  rw[Jc];exact Xam
 rw[CK e];refine (h.dk c<|((d c).1 j).resolve_left e).imp id<|fun⟨bk,h1,x⟩=>⟨bk,?_,x⟩
 show ((L.s.bl.set k Bk.zero).set k OX)[c]?=_
 rw[tW<|rQ e,tW<|rQ e];exact h1