/- Part 18. -/
import Derived.Test.YtloldofjddbjoaaGreatJ17
set_option linter.all false
set_option maxHeartbeats 8000000
set_option maxRecDepth 100000
namespace Go.Proofs.YtloldofjddbjoaaGreat
open Go.Sep Go.RowKit Tryz
variable {i nb nf m fl k:Nat} {s:ByteArray} {N N':Nat->Nd} {v:Wx} {f:Fl} {ls:List (cv)} {n u t:Int} {L L':Hm} {c:Cl} {d:DM} {a b:c3} {l:bf}
def VH.congr (h:VH N v) (y:∀b:Nat,v.dm b=some .wr->N' b=N b) (c:∀r,v.r=some r->Rt N r->(r.pin=true->r.up≠r.lo)):VH N' v:=by
 rcases h with e|e|e|e|⟨r,e,x,a⟩
 .exact .inl e
 .exact .inr<|.inl e
 .exact .inr<|.inr<|.inl e
 .exact .inr<|.inr<|.inr<|.inl e
 refine .inr (.inr<|.inr<|.inr ⟨r,e,?_,a⟩);subst e;refine x.congr (y _<|x.Xr<|c r I x)<|λz=>y _ ?_
 show r.dm r.lo=_
 rw[Rm.eP (by rw[x.pn];rcases z with e|e<;>rw[e]<;>rfl) rfl];rcases z with e|e<;>rw[e]<;>rfl
def Yg (N:Nat->Nd) (v:Wx):Prop:=if v.a=5 then v.r=none else VH N v
def VH.o (h:VH N v):Yg N v:=by
 have x:¬v.a=5:=by rcases h with e|e|e|e|⟨r,e,_⟩<;>rw[e]<;>simp
 unfold Yg;rw[pQ x];exact h
def iN (N:Nat->Nd) (p:Bool) (e:Int):Yg N ⟨5,p,none,e⟩:=by unfold Yg;rw[pN rfl]
def Wb (N:Nat->Nd) (k:Bool):Rt N (SK k):=⟨by unfold SK;simp,rfl,by unfold SK;simp,rfl,λh=>absurd rfl h,λh=>by unfold Rm.dn SK at h;simp at h,λh=>by unfold SK at h;simp at h,λh=>by unfold SK at h;simp at h⟩
section
variable {L:Hm} {N:Nat->Nd} {d:DM} {cl:Int->Nat} {wt:Int->cf} {G:Gh} {g:Int->cU} {t:Int}
def gJ (L:Hm) (N:Nat->Nd) (d:DM) (cl:Int->Nat) (wt:Int->cf) (t:Int) (p:Hm×Wx×Bool):Prop :=
 ∃N' G',S0 p.1 N' (Cb d t p.2.1.dm) (Dx cl t p.2.1.cl) (CW wt t p.2.1.wt)/\TI p.1.U N' G'/\Yg N' p.2.1/\Kp L N p.1 N' d t
def YV {m:TL} {h:Int->cU} (y:∀b,b≠0->h b=none) (a:h 0=some m) (x:Int->cU) (z:∀b,b≠0->x b=none) (b:Int):(if b=0 then some m else x b)=h b:=by
 by_cases hb:b=0
 .rw[pN hb,hb,a]
 rw[pQ hb,y b hb,z b hb]
def cG (h:S0 L N (Cb d t g) cl wt) (y:TI L.U N G) (x:g 0=some .ld):kS N L 0 t:=Xde h y (b:=0) x
def cH (h:S0 L N (Cb d t g) cl wt) (x:TI L.U N G) (a:g 0=some .wq) (hm:L.may t) {nd:Nd} (p:BJ nd) (n:nd.leaf=(N 0).leaf) (m:nd.kids=(N 0).kids) (k:nd.piv=(N 0).piv) :
 S0 ((L.N7 0 nd).leave (L.fi 0) t 0) (BQ N 0 nd) (Cb d t<|λb=>if b=0 then none else g b) cl wt/\TI ((L.N7 0 nd).leave (L.fi 0) t 0).U (BQ N 0 nd) G/\Kp L N ((L.N7 0 nd).leave (L.fi 0) t 0) (BQ N 0 nd) d t:=by
 have y:=h.h.wq (t:=t) (b:=0) (by rw[BI];exact a) hm;have j:L.M.on ap 2:=h.h.Ti.1 y.1;have l:=h.N7 j nd;have z:S0 ((L.N7 0 nd).leave ((L.N7 0 nd).fi 0) t 0) (BQ N 0 nd) (Cb d t<|λb=>if b=0 then none else g b) cl wt:=S0.leave (b:=0) l a K K;rw[Hm.Xdl] at z;have c:=h.up a K K (m':=.wr) K K y.2;refine⟨z,x.node x.r.1 p n m k (λe _=>by rw[x.r.2.1,x.r.2.2.1];exact HY _) (λe _=>by rw[x.r.2.1,x.r.2.2.1];exact HY _),⟨λu b i hd=>?_,λb f=>f,λb f=>CK<|λe=>f ?_⟩⟩
 .exact CK<|λe=>(Ld c.h (t:=t) (b:=0) (by rw[BI,pN rfl]) u i<|by rw[GM i];rw[e] at hd;exact hd)
 have o:((L.N7 0 nd).leave (L.fi 0) t 0).M.on ap 2:=(F1 h.h z.h<|by rw[Hm.aj,Hm.ZM]).2 j;rw[e];exact o
def lz {m:Ms} (h:S0 L N (Cb d t v.dm) (Dx cl t v.cl)<|CW wt t v.wt) (j:TI L.U N G) (X:VH N v) (ht:0<=t/\t<8) (hm:L.may t) (E:OD m):bF N t L m v/\gJ L N d cl wt t (VB N t L m v):=by
 have K:=j.r.1;rcases X with e|e|e|e|⟨r,e,hr,hk⟩
 .subst e;refine⟨⟨rfl,K⟩,?_⟩;have h':S0 L N (Cb d t<|Wx.dm ⟨0,false,none,0⟩) (Dx cl t 0) (CW wt t<|some ((0:Nat):Int)):=h;show gJ L N d cl wt t ((L.pin t ((0:Nat):Int)).2,⟨(H9 (L.pin t ((0:Nat):Int)).1).1,(H9 (L.pin t ((0:Nat):Int)).1).2,none,0⟩,false)
  have S:(L.pin t ((0:Nat):Int)).2.U=L.U:=by funext b;unfold Hm.U;rw[Pp]
  have i:=j;rw[<-S] at i;have J:Kp L N (L.pin t ((0:Nat):Int)).2 N d t:=Kp.refl<|λb x=>by rw[S];exact x
  have g:∀(a:Int) (p:Bool),∀b,b≠0->Wx.dm ⟨a,p,none,0⟩ b=none:=λa p b x=>pQ x
  rcases h'.pin hm (show Wx.dm ⟨0,false,none,0⟩ ((0:Nat):Int)=none from rfl) K with⟨y,n⟩|⟨y,n⟩|⟨y,n⟩
  .have s:H9 (L.pin t ((0:Nat):Int)).1=(2,true):=by unfold H9;rw[pN y]
   rw[s];exact⟨N,G,n.dm<|YV (g 2 true) I _<|g 0 false,i,VH.o Ze,J⟩
  .have s:H9 (L.pin t ((0:Nat):Int)).1=(1,true):=by unfold H9;rw[pQ A1,pN y]
   rw[s];exact⟨N,G,n.dm<|YV (g 1 true) I _<|g 0 false,i,VH.o<|.inr WM,J⟩
  have s:H9 (L.pin t ((0:Nat):Int)).1=(0,false):=by unfold H9;rw[pQ A1,pQ A1]
  rw[s];exact⟨N,G,n,i,VH.o WM,J⟩
 .subst e;have g:∀(a:Int) (p:Bool),∀b,b≠0->Wx.dm ⟨a,p,none,0⟩ b=none:=λa p b x=>pQ x
  refine⟨⟨rfl,cG h j rfl⟩,N,G,?_,j,VH.o Ze,Kp.refl<|λ_ x=>x⟩;exact (h.load (b:=0) I).dm<|YV (g 2 true) I _<|g 1 true
 .subst e;have g:∀(a:Int) (p:Bool),∀b,b≠0->Wx.dm ⟨a,p,none,0⟩ b=none:=λa p b x=>pQ x
  refine⟨⟨rfl,h.h.Ti.2<|h.h.fM (t:=t) (by rw[BI];rfl) hm⟩,N,G,?_,j,VH.o<|.inr Ze,Kp.refl<|λ_ x=>x⟩;exact (h.take (b:=0) I hm true).dm<|YV (g 3 true) I _<|g 2 true
 .subst e;have Q:Wx.dm ⟨3,true,none,0⟩ 0=some .wq:=rfl;have u:=h.h.wq (t:=t) (b:=0) (by rw[BI];exact Q) hm;have ho:L.M.on ((0:Nat):Int) 2:=h.h.Ti.1 u.1;have D:L.nd 0=N 0:=(h.no (b:=0) ho).2;have T:=j.fit 0 K;have O:=h.up Q A2 A2 (m':=.wr) A2 A2 u.2
  -- it makes room
  have C:gJ L N d cl wt t (L,⟨4,true,some<|SK true,0⟩,false):=⟨N,G,O.dm (λb=>by
   show _=(SK true).dm b
   unfold Rm.dm SK;by_cases x:b=0
   .simp[x]
   simp only[x,r9];rw[show Wx.dm ⟨3,true,none,0⟩ b=none from pQ x];simp[x]),j,VH.o<|.inr<|.inr<|.inr<|.inr ⟨_,rfl,Wb N true,rfl⟩,Kp.refl<|λ_ x=>x⟩
  have c:∀nd:Nd,BJ nd=true->nd.leaf=(N 0).leaf->nd.kids=(N 0).kids->nd.piv=(N 0).piv->gJ L N d cl wt t ((L.N7 0 nd).leave (L.fi 0) t 0,⟨5,false,none,0⟩,true):=λnd y n P V=>by
   obtain⟨q1,Z,q3⟩:=cH h j Q hm y n P V;refine⟨_,G,q1.dm<|λb=>?_,Z,iN _ _ _,q3⟩;exact nG
  constructor
  .unfold bF;rw[pQ A3,pQ A3,pQ A3,pN rfl,D];refine⟨rfl,u,?_⟩;cases f:(N 0).leaf with
   |true =>
    rw[pN rfl];have B:=H3 T f;refine⟨B.r,(B.put E).r,λy=>CF (d:=DT (N 0) m) ?_ A2⟩;unfold BJ;rw[pN<|show (DT (N 0) m).leaf=true from f];exact y
   |false =>
    rw[pQ A3];have w:=UG T f;refine⟨w.r,(w.add E).r,λy=>CF (d:=D2 (N 0) m) ?_ A2⟩;unfold BJ;rw[pQ ZFQ];exact y
  unfold VB;rw[pQ A3,pQ A3,pQ A3,pN rfl,D];cases f:(N 0).leaf with
  |true =>
   rw[pN rfl];split
   .rename_i y;refine c _ ?_ I I I;unfold BJ;rw[pN<|show (DT (N 0) m).leaf=true from f];exact y
   exact C
  |false =>
   rw[pQ A3];split
   .rename_i y;refine c _ ?_ I I I;unfold BJ;rw[pQ ZFQ];exact y
   exact C
 subst e;obtain⟨hP,N',H,k,F,⟨R,q⟩,A⟩:=cF (r:=r) h j hr ht hm;rw[hk] at R q;have s:VB N t L m ⟨4,true,some r,0⟩=(X6 t (Nb N L t r).1 (Nb N L t r).2,Y1 (Nb N L t r).2,false):=rfl
 have l:(Nb N L t r).2.a=11->(Nb N L t r).2.dm=(λb=>if b=0 then some .wr else none)/\(Nb N L t r).2.cl=0/\(Nb N L t r).2.wt=none:=λz=>by
  rw[pN z] at q;refine⟨?_,by unfold Rm.cl;rw[z];rfl,by unfold Rm.wt;rw[z];rfl⟩;funext b;unfold Rm.dm;rw[q.1,q.2.1,q.2.2];simp
 have Y:∀(a:Int) (p:Bool) (e:Int),a=5->(λ_=>none)=Wx.dm ⟨a,p,none,e⟩:=λa p e z=>by
  funext b;unfold Wx.dm;subst z;simp
 constructor
 .refine⟨r,rfl,hP,λz _=>?_⟩;rw[(l z).1] at k;exact (Ml k.h (b:=0) jl).has
 rw[s];unfold X6 Y1;by_cases z:(Nb N L t r).2.a=11
 .obtain⟨d1,d2,d3⟩:=l z;rw[d1,d2,d3] at k;simp only[pN z];by_cases he:(Nb N L t r).2.e=0
  .simp only[pN he];have W:=Ml k.h (b:=0) jl;have hd:=k.up (b:=0) (m:=.wr) (m':=.wq) jl A2 A2 A2 A2<|PS.XiJ W.2;refine⟨N',H,hd.dm<|λb=>?_,F,VH.o<|.inr Ze,A⟩;exact nG
  simp only[pQ he];have f:=k.leave (b:=0) (m:=.wr) jl A2 A2;refine⟨N',H,f.dm<|λb=>?_,F,iN _ _ _,A.nb,A.us,λb x=>A.sy b<|λP=>x ?_⟩
  .exact nG
  exact (F1 k.h f.h<|by rw[Hm.aj]).2 P
 simp only[pQ z];rw[pQ z] at q;exact⟨N',H,k,F,VH.o<|.inr<|.inr<|.inr<|.inr ⟨_,rfl,q,R⟩,A⟩
end
def Fl.dm (f:Fl) (b:Int):cU:=match f.r with
 |some r=>r.dm b
 |none=>if b=0 then (if f.a=2 then some .ld else if f.a=3 then some .pn else if f.a=4 then some .wq else none) else none
def Fl.wt (f:Fl):cf:=match f.r with
 |some r=>r.wt
 |none=>if f.a=1/\f.w=true then some 0 else none
def Fl.cl (f:Fl):Nat:=match f.r with
 |some r=>r.cl
 |none=>0
def XW (N:Nat->Nd) (f:Fl):Prop:=(1<=f.a/\f.a<=4/\f.r=none)\/(f.a=5/\∃r,f.r=some r/\Rt N r/\r.keep=false)
def XW.congr (h:XW N f) (z:∀b:Nat,f.dm b=some .wr->N' b=N b) (d:∀r,f.r=some r->Rt N r->(r.pin=true->r.up≠r.lo)):XW N' f:=by
 rcases h with e|⟨e,r,y,x,c⟩
 .exact .inl e
 have hd:∀b,f.dm b=r.dm b:=λb=>by unfold Fl.dm;rw[y]
 refine .inr ⟨e,r,y,x.congr (z _<|by rw[hd];exact x.Xr<|d r y x)<|λa=>z _ ?_,c⟩;rw[hd,Rm.eP (by rw[x.pn];rcases a with e|e<;>rw[e]<;>rfl) rfl];rcases a with e|e<;>rw[e]<;>rfl
section
variable {L:Hm} {N:Nat->Nd} {d:DM} {cl:Int->Nat} {wt:Int->cf} {G:Gh} {g:Int->cU} {t:Int}
def cI (h:HI L (Cb d t g) cl<|CW wt t none) (a:0<=t/\t<8) (v:∀b,g b=none):L.may t=true:=by
 have hd:∀b,Cb d t g t b=none:=λb=>by rw[BI];exact v b
 unfold Hm.may Mo.may;rw[QP.2 a]
 have n:L.la.any (λl=>decide (t∈l.q.map Prod.fst))=false:=by
  rw[List.any_eq_false];intro l o x;obtain⟨i,hi⟩:=tj.1 o;have c:=(qp.1 hi).1;obtain⟨f,r⟩:∃f,L.M.fr[i]?=some f:=⟨_,pE<|by rw[<-h.ll];exact c⟩
  have k:L.OG i=l:=by unfold Hm.OG;rw[sY,hi];rfl
  have s:PS l t none:=by
   have z:=h.fr i f r;rw[k] at z;by_cases hs:f.st=1\/f.st=2
   .have:=(z.in' hs).1 t a.1;rw[hd] at this;exact this
   exact z.out hs t a.1
  have j:t∉Lt.tasks l:=s;exact j<|sw _<|sw _<|sW x
 have m:L.M.waits t=false:=by
  unfold Mo.waits;rw[List.any_eq_false];rintro⟨u,b⟩ y x;unfold Xy at x;have e:u=t:=sW x;subst e;have:=((h.Ud u b).1 y).1;rw[hd] at this;cases this
 have p:L.M.stand t=none:=by
  refine DG<|λq y=>sS<|XaN h Mi q y
 rw[n,m,p];rfl
def lM (L:Hm) (N:Nat->Nd) (d:DM) (cl:Int->Nat) (wt:Int->cf) (t:Int) (p:Hm×Fl):Prop :=
 ∃N' G',S0 p.1 N' (Cb d t p.2.dm) (Dx cl t p.2.cl) (CW wt t p.2.wt)/\TI p.1.U N' G'/\XW N' p.2/\Kp L N p.1 N' d t
def lA (h:S0 L N (Cb d t f.dm) (Dx cl t f.cl)<|CW wt t f.wt) (j:TI L.U N G) (T:XW N f) (W:0<=t/\t<8) (hm:L.may t) (c:f.n<=60000/\f.g<=60000):bI N L t f/\lM L N d cl wt t (Pg N L t f):=by
 obtain⟨a,w,p,r,n,x⟩:=f;have C:=j.r.1;have z:∀(a:Int) (w p:Bool) (n g:Nat),∀b,b≠0->Fl.dm ⟨a,w,p,none,n,g⟩ b=none:=λa w p n g b y=>pQ y
 rcases T with⟨R,a4,o⟩|⟨F,r',o,X,Y⟩
 .dsimp only at R a4 o;subst o;rcases (by omega:a=1\/a=2\/a=3\/a=4) with e|e|e|e
  .subst e;refine⟨⟨A3,A3,c.1,c.2,λ_=>rfl,λ_=>C,λe=>xk,λe=>xk,λe=>xk,λe=>xk⟩,?_⟩
   have h':S0 L N (Cb d t<|Fl.dm ⟨1,w,p,none,n,x⟩) (Dx cl t 0) (CW wt t<|some ((0:Nat):Int)):=by
    cases w
    .exact h.Tj _
    exact h
   show lM L N d cl wt t ((L.pin t ((0:Nat):Int)).2,Fl.pinned ⟨1,w,p,none,n,x⟩ (L.pin t ((0:Nat):Int)).1)
   have Q:(L.pin t ((0:Nat):Int)).2.U=L.U:=by funext b;unfold Hm.U;rw[Pp]
   have i:=j;rw[<-Q] at i;have v:Kp L N (L.pin t ((0:Nat):Int)).2 N d t:=Kp.refl<|λb y=>by rw[Q];exact y
   rw[Fl.zX];rcases h'.pin hm (show Fl.dm ⟨1,w,p,none,n,x⟩ ((0:Nat):Int)=none from rfl) C with⟨q,m⟩|⟨q,m⟩|⟨q,m⟩
   .rw[pN q,sS ZHh];exact⟨N,G,m.dm<|YV (z 3 false _ n x) I _<|z 1 w p n x,i,.inl ⟨A3,A3,rfl⟩,v⟩
   .rw[pQ ZCn,pN q,sS ZHh];exact⟨N,G,m.dm<|YV (z 2 false _ n x) I _<|z 1 w p n x,i,.inl ⟨A3,A3,rfl⟩,v⟩
   rw[pQ ZCn,pQ (show ¬(L.pin t ((0:Nat):Int)).1=3 by omega),sT q];exact⟨N,G,m,i,.inl ⟨A3,A3,rfl⟩,v⟩
  .subst e;refine⟨⟨A3,A3,c.1,c.2,λ_=>rfl,λe=>xk,λ_=>cG h j rfl,λe=>xk,λe=>xk,λe=>xk⟩,N,G,?_,j,.inl ⟨Yi,Yi,Yi⟩,Kp.refl<|λ_ y=>y⟩;exact (h.load (b:=0) I).dm<|YV (z 3 w p n x) I _<|z 2 w p n x
  .subst e;refine⟨⟨A3,A3,c.1,c.2,λ_=>rfl,λe=>xk,λe=>xk,λ_=>h.h.Ti.2<|h.h.fM (t:=t) (by rw[BI];rfl) hm,λe=>xk,λe=>xk⟩,N,G,?_,j,.inl ⟨Yi,Yi,Yi⟩,Kp.refl<|λ_ y=>y⟩;exact (h.take (b:=0) I hm true).dm<|YV (z 4 w p n x) I _<|z 3 w p n x
  subst e;have E:Fl.dm ⟨4,w,p,none,n,x⟩ 0=some .wq:=rfl;have l:=h.h.wq (t:=t) (b:=0) (by rw[BI];exact E) hm;have ho:L.M.on ((0:Nat):Int) 2:=h.h.Ti.1 l.1;have A:L.no 0=N 0:=(h.no (b:=0) ho).1;have hf:=j.fit 0 C;refine⟨⟨A3,A3,c.1,c.2,λ_=>rfl,λe=>xk,λe=>xk,λe=>xk,λ_=>⟨by rw[A];exact CF hf A2,l.has⟩,λe=>xk⟩,?_⟩;show lM L N d cl wt t (Gf L t ⟨4,w,p,none,n,x⟩)
  unfold Gf;split
  .have D:=h.up E A2 A2 (m':=.wr) A2 A2 l.2;refine⟨N,G,D.dm<|λb=>?_,j,.inr ⟨rfl,_,rfl,Wb N false,rfl⟩,Kp.refl<|λ_ y=>y⟩;show _=(SK false).dm b
   unfold Rm.dm SK;by_cases y:b=0
   .simp[y]
   simp only[y,r9];rw[z 4 w p n x b y];simp[y]
  have P:=h.leave (b:=0) E A2 A2;have B:Fl.wt ⟨4,w,p,none,n,x⟩=none:=by unfold Fl.wt;simp
  rw[B] at P;refine⟨N,G,(P.Tj (Fl.over ⟨4,w,false,none,n,x⟩ false).wt).dm<|λb=>?_,j,.inl ⟨jB,jB,rfl⟩,Kp.refl<|λ_ y=>y⟩;have e:(Fl.over ⟨4,w,false,none,n,x⟩ false).dm b=none:=by unfold Fl.over Fl.dm;simp
  by_cases y:b=0
  .rw[pN y];exact e.symm
  rw[pQ y,z 4 w p n x b y];exact e.symm
 dsimp only at F o;subst o;subst F;obtain⟨V,N',K,s,H,⟨O,k⟩,J⟩:=cF (r:=r') h j X W hm;rw[Y] at O k;refine⟨⟨A3,A3,c.1,c.2,λe=>xk,λe=>xk,λe=>xk,λe=>xk,λe=>xk,λ_=>⟨r',rfl,V⟩⟩,?_⟩;have Z:Pg N L t ⟨5,w,p,some r',n,x⟩=if (Nb N L t r').2.a=11 then ((Nb N L t r').1,Fl.over ⟨5,w,p,some r',n,x⟩<|decide ((Nb N L t r').2.e=0)) else ((Nb N L t r').1,⟨5,w,p,some (Nb N L t r').2,n,x⟩):=Yi
 rw[Z];split
 .rename_i ha;rw[pN ha] at k
  have hd:(Nb N L t r').2.dm=λ_=>none:=by
   funext b;unfold Rm.dm;rw[k.1,k.2.1,k.2.2];simp
  have hc:(Nb N L t r').2.cl=0:=by unfold Rm.cl;rw[ha];rfl
  have S:(Nb N L t r').2.wt=none:=by unfold Rm.wt;rw[ha];rfl
  rw[hd,hc,S] at s;have u:(Fl.over ⟨5,w,p,some r',n,x⟩<|decide ((Nb N L t r').2.e=0)).wt=(if w=true then some 0 else none):=by unfold Fl.over Fl.wt;simp
  refine⟨N',K,?_,H,.inl ⟨jB,jB,rfl⟩,J⟩;show S0 _ N' (Cb d t _) (Dx cl t 0) (CW wt t _)
  rw[u];have h3:S0 (Nb N L t r').1 N' (Cb d t<|λ_=>none) (Dx cl t 0) (CW wt t (if w=true then some 0 else none)):=s.Tj _;refine h3.dm<|λb=>?_
  unfold Fl.over Fl.dm;simp
 rename_i ha;rw[pQ ha] at k;exact⟨N',K,s,H,.inr ⟨rfl,_,rfl,k,O⟩,J⟩
end
def Xjb (o:Opn):OI (VO o)=true:=by
 unfold VO;split
 .exact Xcg _ _ _
 decide
def cJ (o:Opn):Qd (XQ o)=true:=by
 unfold XQ;split
 .rename_i h;have y:=FU o.val
  have x:(pad (Q5 o.val) 16).take o.val.size=Q5 o.val:=by
   unfold pad;rw[sK J,pZ J]
  unfold Qd Ds;refine sT ⟨by show (0:Int)<=(o.val.size:Int);omega,by show (o.val.size:Int)<=16;omega,?_⟩;show pad ((pad (Q5 o.val) 16).take ((o.val.size:Int)).toNat) 16=pad (Q5 o.val) 16
  rw[rD,x]
 decide
def Cl.dm (c:Cl) (b:Int):cU:=match c.ph with
 |.idle=>none
 |.rd r=>r.dm b
 |.wr v=>v.dm b
def Cl.wt (c:Cl):cf:=match c.ph with
 |.idle=>none
 |.rd r=>r.wt
 |.wr v=>v.wt
def Cl.cl (c:Cl):Nat:=match c.ph with
 |.wr v=>v.cl
 |_=>0
def Rf (cs:List Cl) (fs:List Fl):DM:=λt b=>if t<0 then none else match cs[t.toNat]? with
 |some c=>c.dm b
 |none=>match fs[t.toNat-cs.length]? with
  |some f=>f.dm b
  |none=>none
def VA (cs:List Cl) (fs:List Fl) (t:Int):cf:=if t<0 then none else match cs[t.toNat]? with
 |some c=>c.wt
 |none=>match fs[t.toNat-cs.length]? with
  |some f=>f.wt
  |none=>none
def UC (cs:List Cl) (fs:List Fl) (t:Int):Nat:=if t<0 then 0 else match cs[t.toNat]? with
 |some c=>c.cl
 |none=>match fs[t.toNat-cs.length]? with
  |some f=>f.cl
  |none=>0
section
variable {cs:List Cl} {fs:List Fl}
def gC {i:Nat} (h:cs[i]?=some c):(∀b,Rf cs fs (i:Int) b=c.dm b)/\VA cs fs (i:Int)=c.wt/\UC cs fs (i:Int)=c.cl:=by
 have x:¬(i:Int)<0:=J;unfold Rf VA UC;refine⟨λb=>?_,?_,?_⟩
 .rw[pQ x,rD,h]
 .rw[pQ x,rD,h]
 rw[pQ x,rD,h]
def gD (h:fs[i]?=some f):(∀b,Rf cs fs ((cs.length+i:Nat):Int) b=f.dm b)/\VA cs fs ((cs.length+i:Nat):Int)=f.wt/\UC cs fs ((cs.length+i:Nat):Int)=f.cl:=by
 have x:¬((cs.length+i:Nat):Int)<0:=J;have y:cs[cs.length+i]?=none:=pH J;have z:cs.length+i-cs.length=i:=J;unfold Rf VA UC;refine⟨λb=>?_,?_,?_⟩
 .rw[pQ x,rD,y];dsimp only;rw[z,h]
 .rw[pQ x,rD,y];dsimp only;rw[z,h]
 rw[pQ x,rD,y];dsimp only;rw[z,h]
def Xk9 {i:Nat} (hi:i<cs.length) (c:Cl):Rf (cs.set i c) fs=Cb (Rf cs fs) (i:Int) c.dm/\VA (cs.set i c) fs=CW (VA cs fs) (i:Int) c.wt/\UC (cs.set i c) fs=Dx (UC cs fs) (i:Int) c.cl:=by
 have z:(cs.set i c)[i]?=some c:=tE hi;have x:=gC (fs:=fs) z;have h:∀t:Int,t≠(i:Int)->0<=t->(cs.set i c)[t.toNat]?=cs[t.toNat]?:=λt a d=>tW J
 have y:(cs.set i c).length=cs.length:=sI ..;refine⟨?_,?_,?_⟩
 .funext t b;unfold Cb;by_cases e:t=(i:Int)
  .rw[pN e,e];exact x.1 b
  rw[pQ e];unfold Rf;exact zi
 .funext t;unfold CW;by_cases e:t=(i:Int)
  .rw[pN e,e];exact x.2.1
  rw[pQ e];unfold VA;exact zi
 funext t;unfold Dx;by_cases e:t=(i:Int)
 .rw[pN e,e];exact x.2.2
 rw[pQ e];unfold UC;exact zi
def Xky (hi:i<fs.length) (f:Fl):Rf cs (fs.set i f)=Cb (Rf cs fs) ((cs.length+i:Nat):Int) f.dm/\VA cs (fs.set i f)=CW (VA cs fs) ((cs.length+i:Nat):Int) f.wt/\UC cs (fs.set i f)=Dx (UC cs fs) ((cs.length+i:Nat):Int) f.cl:=by
 have z:(fs.set i f)[i]?=some f:=tE hi;have x:=gD (cs:=cs) z;have h:∀t:Int,t≠((cs.length+i:Nat):Int)->0<=t->cs[t.toNat]?=none->(fs.set i f)[t.toNat-cs.length]?=fs[t.toNat-cs.length]?:=λt a d y=>tW (by have:=List.getElem?_eq_none_iff.1 y;omega)
 refine⟨?_,?_,?_⟩
 .funext t b;unfold Cb;by_cases e:t=((cs.length+i:Nat):Int)
  .rw[pN e,e];exact x.1 b
  rw[pQ e];unfold Rf;exact vv
 .funext t;unfold CW;by_cases e:t=((cs.length+i:Nat):Int)
  .rw[pN e,e];exact x.2.1
  rw[pQ e];unfold VA;exact vv
 funext t;unfold Dx;by_cases e:t=((cs.length+i:Nat):Int)
 .rw[pN e,e];exact x.2.2
 rw[pQ e];unfold UC;exact vv
end
def gI (o:Opn):Prop:=o.key.size<=9223372036854775807/\(o.kind=1\/o.kind=2\/o.kind=3\/o.kind=4)
def Xkz {o:Opn} (h:o.kind=1\/o.kind=2\/o.kind=3):OD (Qo o)=true:=by
 have y:OI (Qo o).key=true:=Xjb o;unfold OD;rw[y,tO];show (if o.kind=1 then Qd (Qo o).val&&decide ((Qo o).by'=0) else if o.kind=2 then decide ((Qo o).by'=0)&&decide ((Qo o).val=Na 16) else if o.kind=3 then decide ((Qo o).val=Na 16) else false)=true
 have x:(Qo o).val=if o.kind=1 then XQ o else Na 16:=rfl
 have z:(Qo o).by'=if o.kind=3 then o.by' else 0:=rfl
 rw[x,z];rcases h with e|e|e
 .simp[e,cJ]
 .simp[e]
 simp[e]
def lE {m:Ms} {s:Int} (h:OD m):OD (m.num s)=true:=by
 unfold Ms.num;split
 .exact h
 exact h
structure ZO (U:Nat->Prop) (N:Nat->Nd) (t:Nat) (c:Cl):Prop where
 nx:c.nx<=c.ops.length/\(c.ph.Xx=false->c.nx<c.ops.length)
 ok:∀o∈c.ops,gI o
 ph:match c.ph with
  |.idle=>True
  |.rd r=>r.t=(t:Int)/\ZR U r
  |.wr v=>VH N v/\(c.op.kind=1\/c.op.kind=2\/c.op.kind=3)
structure HJ (N:Nat->Nd) (G:Gh) (m:HM):Prop where
 s:S0 m.L N (Rf m.cs m.fs) (UC m.cs m.fs) (VA m.cs m.fs)
 t:TI m.L.U N G
 c:∀(i:Nat) (c:Cl),m.cs[i]?=some c->ZO m.L.U N i c
 f:∀(i:Nat) (f:Fl),m.fs[i]?=some f->XW N f
 n8:m.cs.length+(m.fs.length+1)<=8
section
variable {L:Hm} {N N':Nat->Nd} {d:DM} {cl:Int->Nat} {wt:Int->cf} {G:Gh} {m:HM}
def Rt.ne {r:Rm} (h:S0 L N d cl wt) (f:TI L.U N G) (z:Rt N r) (hd:∀b,d u b=r.dm b) (a:r.pin):r.up≠r.lo:=λe=>by
 have x:r.dn:=by
  have:=z.pn;rw[a] at this;have:=sW this.symm;unfold Rm.dn;omega
 have y:L.U r.lo:=h.us (u:=u)<|by rw[hd,Rm.eP a rfl];rfl
 obtain⟨i,c⟩:=z.kJ f (by rw[e];exact y) x;exact c.ne e
def ZO.keep (h:ZO L.U N i c) (l:S0 L N d cl wt) (m:TI L.U N G) (hd:∀b,d u b=c.dm b) (k:u≠t) (a:Kp L N L' N' d t):ZO L'.U N' i c:=by
 refine⟨h.nx,h.ok,?_⟩;have x:=h.ph;have z:=hd;unfold Cl.dm at z;split
 .trivial
 .rename_i r e;rw[e] at x;exact⟨x.1,x.2.mono a.us⟩
 rename_i v e;rw[e] at x;refine⟨x.1.congr (λb j=>a.nb u b k<|by rw[hd];unfold Cl.dm;rw[e];exact j)<|λr g f y=>f.ne l m (u:=u) (λb=>?_) y,x.2⟩;rw[hd];unfold Cl.dm;rw[e];show v.dm b=_;unfold Wx.dm;rw[g]
def XW.keep (h:XW N f) (g:S0 L N d cl wt) (i:TI L.U N G) (hd:∀b,d u b=f.dm b) (e:u≠t) (a:Kp L N L' N' d t):XW N' f :=
 h.congr (λb c=>a.nb u b e<|by rw[hd];exact c)<|λr z y x=>y.ne g i (u:=u) (λb=>by rw[hd];unfold Fl.dm;rw[z]) x
def Xd (N:Nat->Nd) (L:Hm) (N':Nat->Nd):Prop:=∀b:Nat,¬L.M.on b 2->N' b=N b
def gF (h:v.a=5) (x:v.r=none):(∀b,v.dm b=none)/\v.cl=0/\v.wt=none:=by
 obtain⟨a,p,r,e⟩:=v;dsimp only at h x;subst h;subst x;refine⟨λb=>by unfold Wx.dm;simp,rfl,by unfold Wx.wt;simp⟩
def HJ.client (h:HJ N G m) {t:Nat} {c:Cl} (D:m.cs[t]?=some c) (hm:fT (t:Int) m.L c) :
 (Uo N (t:Int) m.sq m.L c/\(c.ph.Xx=false->m.L.may (t:Int)=true))/\∃N' k,HJ N' k (m.client N t)/\Xd N (m.client N t).L N':=by
 have S:(0:Int)<=(t:Int)/\(t:Int)<8:=by
  have:=(qp.1 D).1;have:=h.n8;omega
 have A:=(qp.1 D).1;obtain⟨X,W,a3⟩:=gC (fs:=m.fs) D;have j:=h.c t c D
 -- the house as this client's own part
 have B:S0 m.L N (Cb (Rf m.cs m.fs) (t:Int) c.dm) (Dx (UC m.cs m.fs) (t:Int) c.cl) (CW (VA m.cs m.fs) (t:Int) c.wt):=by
  have e1:Cb (Rf m.cs m.fs) (t:Int) c.dm=Rf m.cs m.fs:=by
   have:c.dm=Rf m.cs m.fs (t:Int):=(funext X).symm;rw[this];exact Xbt
  rw[e1,<-W,<-a3,Xbs,Xbu];exact h.s
 -- what is to be shown of a step
 have key:∀(L':Hm) (c':Cl) (inn:Bool) (evs:List O1),Ch N (t:Int) m.sq m.L c=(L',c',inn,evs)->∀N' k,S0 L' N' (Cb (Rf m.cs m.fs) (t:Int) c'.dm) (Dx (UC m.cs m.fs) (t:Int) c'.cl) (CW (VA m.cs m.fs) (t:Int) c'.wt)->TI L'.U N' k->ZO L'.U N' t c'->Kp m.L N L' N' (Rf m.cs m.fs) (t:Int)->∃N' k,HJ N' k (m.client N t)/\Xd N (m.client N t).L N':=λL' c' inn evs e N' k w n q z=>by
  have em:m.client N t={m with L:=L',cs:=m.cs.set t c',sq:=Ox inn m.sq,ev:=m.ev++evs}:=by unfold HM.client;rw[D];dsimp only;rw[e]
  rw[em];obtain⟨V,s2,Y⟩:=Xk9 (fs:=m.fs) A c';refine⟨N',k,⟨?_,n,λi d hd=>?_,λi f Q=>?_,?_⟩,z.sy⟩
  .show S0 L' N' (Rf (m.cs.set t c') m.fs) (UC (m.cs.set t c') m.fs) (VA (m.cs.set t c') m.fs)
   rw[V,s2,Y];exact w
  .have O:(m.cs.set t c')[i]?=some d:=hd;rcases (BN A).1 O with⟨rfl,rfl⟩|⟨hi,C⟩
   .exact q
   exact (h.c i d C).keep h.s h.t (u:=(i:Int)) (gC (fs:=m.fs) C).1 A1 z
  .have:=(qp.1<|show m.fs[i]?=some f from Q).1;exact (h.f i f Q).keep h.s h.t (u:=((m.cs.length+i:Nat):Int)) (gD (cs:=m.cs) Q).1 A1 z
  show (m.cs.set t c').length+(m.fs.length+1)<=8
  rw[sI];exact h.n8
 obtain⟨ops,y,ph⟩:=c;cases ph with
 |idle =>
  have x:y<ops.length:=by
   have w:y≠ops.length:=by unfold fT at hm;simpa using hm
   have:=j.nx.1;show y<ops.length
   have:y<=ops.length:=j.nx.1;omega
  have P:Cl.op ⟨ops,y,.idle⟩∈ops:=ry<|XcU (c:=⟨ops,y,.idle⟩) x;have o:=j.ok _ P;refine⟨⟨⟨x,o.1,o.2⟩,λe=>zZ⟩,?_⟩;have Z:∀b,Cl.dm ⟨ops,y,.idle⟩ b=none:=λ_=>rfl
  by_cases hT:IL (Cl.op ⟨ops,y,.idle⟩)=true
  .refine key m.L ⟨ops,y+1,.idle⟩ false _ (by unfold Ch;dsimp only;rw[pN hT];rfl) N G (B.dm XA) h.t oq<|Kp.refl Jx
  have F:Ch N (t:Int) m.sq m.L ⟨ops,y,.idle⟩=(m.L,⟨ops,y,if (Cl.op ⟨ops,y,.idle⟩).kind=4 then .rd (Y0 (t:Int)<|VO<|Cl.op ⟨ops,y,.idle⟩) else .wr ⟨0,false,none,0⟩⟩,false,[yT (t:Int) ⟨ops,y,.idle⟩]):=by unfold Ch;dsimp only;rw[pQ hT]
  by_cases z:(Cl.op ⟨ops,y,.idle⟩).kind=4
  .rw[pN z] at F;refine key _ _ _ _ F N G ?_ h.t ⟨dw,j.ok,⟨rfl,⟨jK,by unfold Y0;rfl,h.t.r.1,jK,jK,jK⟩⟩⟩<|Kp.refl Jx;refine ((show S0 m.L N _ _ (CW _ (t:Int) none) from B).Tj _).dm<|λb=>?_
   show none=Ie.dm (Y0 (t:Int) _) b
   unfold Ie.dm Y0;simp
  rw[pQ z] at F;refine key _ _ _ _ F N G ?_ h.t ⟨dw,j.ok,⟨.inl rfl,?_⟩⟩<|Kp.refl Jx
  .refine ((show S0 m.L N _ _ (CW _ (t:Int) none) from B).Tj<|some 0).dm (λb=>?_);show none=Wx.dm ⟨0,false,none,0⟩ b
   unfold Wx.dm;simp
  show (Cl.op ⟨ops,y,.idle⟩).kind=1\/(Cl.op ⟨ops,y,.idle⟩).kind=2\/(Cl.op ⟨ops,y,.idle⟩).kind=3
  have:=o.2;omega
 |rd r =>
  obtain⟨l,J⟩:=j.ph;have g:m.L.may (t:Int)=true:=hm;have x:y<ops.length:=j.nx.2 rfl;have M:S0 m.L N (Cb (Rf m.cs m.fs) r.t r.dm) (Dx (UC m.cs m.fs) (t:Int) 0) (CW (VA m.cs m.fs) r.t r.wt):=by rw[l];exact B
  obtain⟨w,n,q,z⟩:=XkU M h.t J<|by rw[l];exact g
  rw[l] at q z;refine⟨⟨⟨l,w⟩,λ_=>g⟩,?_⟩;have H:(SH N m.L r).1.U=m.L.U:=by funext b;unfold Hm.U;rw[n]
  have p:=h.t;rw[<-H] at p;by_cases he:(SH N m.L r).2.2=true
  .rw[pN he] at z;exact key _ ⟨ops,y+1,.idle⟩ false _ ZHf N G (z.dm XA) p oq<|Kp.refl<|λb R=>by rw[H];exact R
  rw[pQ he] at z;refine key _ ⟨ops,y,.rd (SH N m.L r).2.1⟩ false _ (by unfold Ch;dsimp only;rw[pQ he]) N G (z.1.dm<|λ_=>I) p ⟨dw,j.ok,⟨q,?_⟩⟩<|Kp.refl<|λb R=>by rw[H];exact R
  rw[H];exact z.2
 |wr v =>
  obtain⟨K,T⟩:=j.ph;have g:m.L.may (t:Int)=true:=hm;have x:y<ops.length:=j.nx.2 rfl;obtain⟨w,N',k,n,q,z,h5⟩:=lz (m:=(Qo<|Cl.op ⟨ops,y,.wr v⟩).num m.sq) (v:=v) B h.t K S g<|lE<|Xkz T;have E:Kp m.L N (VB N (t:Int) m.L ((Qo<|Cl.op ⟨ops,y,.wr v⟩).num m.sq) v).1 N' (Rf m.cs m.fs) (t:Int):=h5;refine⟨⟨w,λ_=>g⟩,?_⟩;by_cases he:(VB N (t:Int) m.L ((Qo<|Cl.op ⟨ops,y,.wr v⟩).num m.sq) v).2.1.a=5
  .refine key _ ⟨ops,y+1,.idle⟩ _ _ ZHf N' k ?_ q oq E;unfold Yg at z;rw[pN he] at z;have hd:=gF he z;rw[hd.2.1,hd.2.2] at n;exact n.dm<|λb=>by rw[hd.1];rfl
  exact key _ ⟨ops,y,.wr (VB N (t:Int) m.L ((Qo<|Cl.op ⟨ops,y,.wr v⟩).num m.sq) v).2.1⟩ false _ (by unfold Ch;dsimp only;rw[pQ he]) N' k (n.dm<|λ_=>I) q ⟨dw,j.ok,⟨by unfold Yg at z;rw[pQ he] at z;exact z,T⟩⟩ E
end
section
variable {L:Hm} {d:DM} {cl:Int->Nat} {wt:Int->cf}
def HI.OT (h:HI L d cl wt) (z:(OV L.M.can L.M.Ov L.M.hand).2.length=L.M.fr.length) (v:∀k,(OV L.M.can L.M.Ov L.M.hand).1=some k->∃y,L.M.fr[k]?=some y/\y.st=2/\y.pins=0):HI {L with M:=L.M.OT.2} d cl wt:=by
 cases hs:(OV L.M.can L.M.Ov L.M.hand).1 with
 |none=>rw[Gk hs];exact h
 |some k =>
  obtain⟨y,c,s,B⟩:=v k hs;rw[ED hs c];have o:=(qp.1 c).1;have a:=Hi z
  have A:∀t,d t y.blk=none:=λt=>by
   cases hd:d t y.blk with
   |none=>rfl
   |some m =>
    have q:=(h.has t y.blk xh).1;have n:=V0 q.1 q.2 (d:=d) (b:=y.blk) xh;have C:=((h.fr k y c).in'<|.inr s).2;omega
  refine h.l9 (fr:=(Mo.SI L.M.fr _).set k Cy) (by rw[sI];exact a) (λj g i=>?_) (λu=>?_) Z8
  .rcases (BN<|by rw[a];exact o).1 i with⟨rfl,rfl⟩|⟨_,i⟩
   .exact⟨y,c,.inr ⟨λ_=>A,K⟩⟩
   rw[Fg z] at i;obtain⟨f,w,e⟩:=rv.1 i;refine⟨f,w,?_⟩;exact zj
  have n:=HX (isC u) (l:=Mo.SI L.M.fr (OV L.M.can L.M.Ov L.M.hand).2) (k:=k) (y:=Cy) (x:={y with ref:=(OV L.M.can L.M.Ov L.M.hand).2.getD k false}) (by rw[Fg z,c];rfl);rw[K8 (f:=Cy) K,K8 (f:={y with ref:=(OV L.M.can L.M.Ov L.M.hand).2.getD k false})<|show y.st≠3 by omega] at n;simp at n;rw[n,<-h.cl u];unfold Mo.SI Mo.claims;rw[List.countP_map]
  have r:∀(fr:List Vw) (l:bo),l.length=fr.length->(fr.zip l).countP (isC u∘λp=>{p.1 with ref:=p.2})=fr.countP (isC u):=by
   intro fr
   induction fr with
   |nil=>intro l _;rfl
   |cons f fr ih =>
    intro l z;cases l with
    |nil=>simp at z
    |cons b l =>
     rw[List.zip_cons_cons,List.countP_cons,List.countP_cons,ih l jc];rfl
  exact r _ _ z
end
def Xjc (T:Sc.Tab) (p:Int):(Sc.oW T p).st=T.st:=by
 unfold Sc.oW;split
 .rfl
 show (Sc.Vg _ _ _).st=_
 exact Sc.Xdq _ _ _
def HN.OT {cl:Int->Nat} {wt:Int->cf} (h:HN L N) (hi:HI L d cl wt) (H:(OV L.M.can L.M.Ov L.M.hand).2.length=L.M.fr.length) (S:∀k,(OV L.M.can L.M.Ov L.M.hand).1=some k->∃y,L.M.fr[k]?=some y/\y.st=2/\y.pins=0)
 (x:∀b:Nat,L.U b->BJ (N b)=true) (R:L.s.bl.length=L.s.us.length):bG L/\HN (EZ L) N/\(EZ L).s.us=L.s.us/\(EZ L).s.bl.length=L.s.bl.length/\∃s,EZ L={L with M:=L.M.OT.2,s:=s}:=by
 cases hsw:(OV L.M.can L.M.Ov L.M.hand).1 with
 |none =>
  have n:=Gk hsw;have j:EZ L=L:=by unfold EZ;rw[n]
  rw[j];exact⟨λf x=>(by rw[n] at x;cases x),h,rfl,rfl,L.s,by rw[n]⟩
 |some k =>
  obtain⟨y,D,P,W⟩:=S k hsw;have n:=ED hsw D;have E:=h.us k y D<|.inr P;have C:=h.nd k y D P;have p:BJ y.nd=true:=by rw[C];exact x _ E.2
  have m:=(GJ p).len
  have j:EZ L={L with M:=L.M.OT.2,s:=if y.dirty=true then L.s.put y.blk.toNat (WO y.nd m) else L.s}:=by
   unfold EZ;rw[n];dsimp only;rw[dif_pos m]
  have o:(EZ L).s.us=L.s.us:=by rw[j];dsimp only;split<;>rfl
  have G:(EZ L).s.bl.length=L.s.bl.length:=by
   rw[j];dsimp only;split
   .show (L.s.bl.set _ _).length=_
    rw[sI]
   rfl
  refine⟨λf x=>?_,?_,o,G,_,j⟩
  .rw[n] at x;cases x
   exact⟨E.1,E.2,p⟩
  have A:=(qp.1 D).1;have q:=Hi H
  have B:∀i g,(EZ L).M.fr[i]?=some g->(i=k/\g=Cy)\/(i≠k/\∃f b,L.M.fr[i]?=some f/\g={f with ref:=b}):=λi g c=>by
   rw[j,n] at c;rcases (BN<|by rw[q];exact A).1 c with e|⟨hi,c⟩
   .exact .inl e
   rw[Fg H] at c;obtain⟨f,x,e⟩:=rv.1 c;exact .inr ⟨hi,f,_,x,e.symm⟩
  have u:∀i f,i≠k->L.M.fr[i]?=some f->∃b,(EZ L).M.fr[i]?=some {f with ref:=b}:=λi f hi x=>by
   refine⟨(OV L.M.can L.M.Ov L.M.hand).2.getD i false,?_⟩;rw[j,n];refine (BN<|by rw[q];exact A).2<|.inr ⟨hi,?_⟩;rw[Fg H,x];rfl
  have w:IE (Ff y.nd) y.nd:=λvb=>XeG p
  refine⟨λi g c z=>?_,λi g c z=>?_,λb K=>?_⟩
  .rcases B i g c with⟨_,rfl⟩|⟨_,f,b,x,rfl⟩
   .exact absurd z A2
   exact h.nd i f x z
  .rcases B i g c with⟨_,rfl⟩|⟨_,f,b,x,rfl⟩
   .exact absurd z A2
   unfold Hm.U;rw[o];exact h.us i f x z
  have F:L.U b:=by unfold Hm.U at K ⊢;rw[o] at K;exact K
  have O:∀b:Nat,y.blk.toNat=b->y.nd=N b:=λb e=>by rw[C,e]
  have t:y.dirty=true->(EZ L).s.bl[y.blk.toNat]?=some (WO y.nd m):=λhd=>by
   rw[j];dsimp only;rw[pN hd];show (L.s.bl.set _ _)[_]?=_
   rw[tE<|by rw[R];exact (qp.1 E.2).1]
  have v:¬(y.dirty=true/\y.blk.toNat=b)->(EZ L).s.bl[b]?=L.s.bl[b]?:=λV=>by
   rw[j];dsimp only;split
   .rename_i hd;show (L.s.bl.set _ _)[_]?=_
    rw[tW<|λe=>V ⟨hd,e⟩]
   rfl
  have a:y.dirty=true->y.blk.toNat=b->∃bk,(EZ L).s.bl[b]?=some bk/\IE bk.l (N b):=λhd e=>⟨WO y.nd m,by rw[<-e];exact t hd,by rw[<-O b e];exact w⟩
  rcases h.dk b F with⟨i,f,x,z,J,r⟩|⟨bk,T,Q⟩
  .by_cases hik:i=k
   .subst hik;rw[D] at x;cases x
    exact .inr<|a r A1
   obtain⟨X,c⟩:=u i f hik x;exact .inl ⟨i,_,c,z,J,r⟩
  by_cases hc2:y.dirty=true/\y.blk.toNat=b
  .exact .inr<|a hc2.1 hc2.2
  exact .inr ⟨bk,by rw[v hc2];exact T,Q⟩
section
variable {N N':Nat->Nd} {G:Gh} {m:HM}
def HJ.flush (h:HJ N G m) {i:Nat} {f:Fl} (l:m.fs[i]?=some f) (hm:bD N ((m.cs.length+i:Nat):Int) m.L f) (S:f.n<=60000/\f.g<=60000) :
 (m.L.may ((m.cs.length+i:Nat):Int)=true/\bI N m.L ((m.cs.length+i:Nat):Int) f)/\∃N' o,HJ N' o (m.flush N i)/\Xd N (m.flush N i).L N':=by
 have k:=(qp.1 l).1;have d:(0:Int)<=((m.cs.length+i:Nat):Int)/\((m.cs.length+i:Nat):Int)<8:=by have:=h.n8;omega
 obtain⟨D,C,K⟩:=gD (cs:=m.cs) l;have w:=h.f i f l
 have p:S0 m.L N (Cb (Rf m.cs m.fs) ((m.cs.length+i:Nat):Int) f.dm) (Dx (UC m.cs m.fs) ((m.cs.length+i:Nat):Int) f.cl) (CW (VA m.cs m.fs) ((m.cs.length+i:Nat):Int) f.wt):=by
  have Q:Cb (Rf m.cs m.fs) ((m.cs.length+i:Nat):Int) f.dm=Rf m.cs m.fs:=by
   have:f.dm=Rf m.cs m.fs ((m.cs.length+i:Nat):Int):=(funext D).symm;rw[this];exact Xbt
  rw[Q,<-C,<-K,Xbs,Xbu];exact h.s
 have x:m.L.may ((m.cs.length+i:Nat):Int)=true:=by
  unfold bD at hm;split at hm
  .rename_i y
   have A:f.r=none:=by
    rcases w with e|⟨e,_⟩
    .exact e.2.2
    omega
   have M:f.wt=none:=by unfold Fl.wt;rw[A];dsimp only;rw[pQ<|by rw[y.2];simp]
   rw[M] at p;exact cI p.h d<|λb=>by unfold Fl.dm;rw[A];dsimp only;rw[y.1];simp
  exact hm
 obtain⟨O,N',o,J,R,H,v⟩:=lA p h.t w d x S;have a:Kp m.L N (Pg N m.L ((m.cs.length+i:Nat):Int) f).1 N' (Rf m.cs m.fs) ((m.cs.length+i:Nat):Int):=v;refine⟨⟨x,O⟩,N',o,?_⟩;have em:m.flush N i={m with L:=(Pg N m.L ((m.cs.length+i:Nat):Int) f).1,fs:=m.fs.set i (Pg N m.L ((m.cs.length+i:Nat):Int) f).2}:=by unfold HM.flush;rw[l]
 rw[em];obtain⟨B,P,E⟩:=Xky (cs:=m.cs) k (Pg N m.L ((m.cs.length+i:Nat):Int) f).2;refine⟨⟨?_,R,λj c y=>?_,λj g F=>?_,?_⟩,v.sy⟩
 .show S0 _ N' (Rf m.cs<|m.fs.set i _) (UC m.cs<|m.fs.set i _) (VA m.cs<|m.fs.set i _)
  rw[B,P,E];exact J
 .have:=(qp.1<|show m.cs[j]?=some c from y).1;exact (h.c j c y).keep h.s h.t (u:=(j:Int)) (gC (fs:=m.fs) y).1 A1 a
 .have q:(m.fs.set i (Pg N m.L ((m.cs.length+i:Nat):Int) f).2)[j]?=some g:=F;rcases (BN k).1 q with⟨rfl,rfl⟩|⟨hj,z⟩
  .exact H
  exact (h.f j g z).keep h.s h.t (u:=((m.cs.length+j:Nat):Int)) (gD (cs:=m.cs) z).1 A1 a
 show m.cs.length+((m.fs.set i _).length+1)<=8
 rw[sI];exact h.n8
def HJ.OT (h:HJ N G m) {B:Nat} (z:m.L.M.Ok B):bG m.L/\HJ N G m.OT:=by
 have a:=QM z;have x:=λk e=>kR z (k:=k) e
 obtain⟨g,l,y,j,s,o⟩:=h.s.n.OT h.s.h a x h.t.fit h.s.s.1;have d:(EZ m.L).U=m.L.U:=by funext b;unfold Hm.U;rw[y]
 refine⟨g,⟨⟨?_,l,by show (EZ m.L).s.bl.length=(EZ m.L).s.us.length/\(EZ m.L).s.us.length<=256;rw[j,y];exact h.s.s⟩,by show TI (EZ m.L).U N G;rw[d];exact h.t,λi c x=>?_,h.f,h.n8⟩⟩
 .show HI (EZ m.L) _ _ _
  rw[o];exact (h.s.h.OT a x).ay s
 show ZO (EZ m.L).U N i c
 rw[d];exact h.c i c x
def HJ.task (h:HJ N G m) {B:Nat} (j:m.L.M.Ok B) (i:∀f∈m.fs,f.n<=60000/\f.g<=60000) {t:Nat} (k:t<m.cs.length+(m.fs.length+1)) (hm:FV N m t):bY N m t/\∃N' G',HJ N' G' (m.task N t)/\Xd N (m.task N t).L N':=by
 unfold HM.task;unfold FV at hm;by_cases h1:t<m.cs.length
 .obtain⟨c,d⟩:∃c,m.cs[t]?=some c:=⟨_,pE h1⟩
  rw[d] at hm;rw[pN h1];obtain⟨⟨x,y⟩,a⟩:=h.client d hm;exact⟨.inl ⟨c,d,x,y⟩,a⟩
 have b:m.cs[t]?=none:=pH J;rw[b] at hm;rw[pQ h1];by_cases h2:t<m.cs.length+m.fs.length
 .obtain⟨f,z⟩:=gE m.fs (t-m.cs.length);rw[z] at hm;rw[pN h2];have e:m.cs.length+(t-m.cs.length)=t:=J;obtain⟨⟨x,y⟩,a⟩:=h.flush z (by rw[e];exact hm)<|i f<|ry z;rw[e] at x y;exact⟨.inr<|.inl ⟨f,J,z,x,y⟩,a⟩
 rw[pQ h2];obtain⟨x,y⟩:=h.OT j;exact⟨.inr<|.inr ⟨J,x⟩,N,G,y,λ_ _=>rfl⟩
def N8 (N:Nat->Nd) (m:HM) (i:Nat):∀(k:Nat) (T:Sc.Tab),k<=T.n->T.st.length=T.n->(oV N m k T).st.length=T.n/\(oV N m k T).st.getD i 0=if i<k then (if T.st.getD i 0=2 then 2 else Ue N m i) else T.st.getD i 0
 |0,T,_,hl=>⟨hl,by simp[oV]⟩
 |k+1,T,hk,hl=>by
  obtain⟨z,y⟩:=N8 N m i k T J hl
  have a:=HU N m k T
  show (Sc.o5 (oV N m k T) (k:Int)<|Ue N m k).st.length=_/\(Sc.o5 (oV N m k T) (k:Int)<|Ue N m k).st.getD i 0=_
  unfold Sc.o5
  split
  .rename_i hc
   refine⟨by show ((oV N m k T).st.set _ _).length=_;rw[sI];exact z,?_⟩
   show ((oV N m k T).st.set (k:Int).toNat<|Ue N m k).getD i 0=_
   rw[Sc.ZF,rD,z]
   by_cases e:k=i
   .subst e
    rw[pN ⟨rfl,J⟩,pN J]
    have h:=hc.2.2
    rw[rD,y,pQ J] at h
    rw[pQ h]
   .rw[pQ (by simp[e]),y]
    exact ZBZ
  .rename_i hc
   refine⟨z,?_⟩
   rw[y]
   by_cases e:k=i
   .subst e
    rw[pQ J,pN J]
    have x:(oV N m k T).st.getD k 0=2:=tY<|λx=>hc ⟨J,by rw[a];omega,by rw[rD];exact x⟩
    rw[y,pQ J] at x
    rw[x,pN rfl]
   .exact ZBZ
structure TD (N:Nat->Nd) (m:HM):Prop where
 tn:m.T.n=m.cs.length+(m.fs.length+1)
 tl:m.T.st.length=m.T.n
 told:∀i,i<m.T.n->m.T.st.getD i 0=0->FV N m i=true
def TD.run (h:TD N m) {t:Nat} (y:t∈Sc.oZ m.T):t<m.cs.length+(m.fs.length+1)/\FV N m t=true:=by
 unfold Sc.oZ at y;obtain⟨z,a⟩:=tc.1 y;have x:=qm.1 z;exact⟨by rw[<-h.tn];exact x,h.told t x<|sW a⟩
def Xjd {cl:Int->Nat} {wt:Int->cf} (hi:HI L d cl wt) (h:Xd N L N'):L.UJ N'=L.UJ N:=by
 unfold Hm.UJ;split
 .rfl
 rename_i hn;exact h 0<|λx=>hn<|hi.Ti.2 x
def Xje (h:m.L.UJ N'=m.L.UJ N) (i:Nat):FV N' m i=FV N m i:=by
 unfold FV bD;rw[h]
def Wc (N:Nat->Nd) {m:HM} (a:m.T.n=m.cs.length+(m.fs.length+1)) (y:m.T.st.length=m.T.n):TD N (m.Sr<|oV N m m.T.n m.T):=by
 refine⟨?_,?_,λi hi z=>?_⟩
 .show (oV N m m.T.n m.T).n=_
  rw[HU];exact a
 .show (oV N m m.T.n m.T).st.length=(oV N m m.T.n m.T).n
  rw[HU];exact (N8 N m 0 _ _ (qb _) y).1
 have x:i<m.T.n:=by
  have:i<(oV N m m.T.n m.T).n:=hi;rwa[HU] at this
 have h:(oV N m m.T.n m.T).st.getD i 0=0:=z;rw[(N8 N m i _ _ (qb _) y).2,pN x] at h;split at h
 .cases h
 show FV N m i=true
 unfold Ue at h;split at h
 .assumption
 split at h
 .split at h<;>cases h
 cases h
def HJ.due (h:HJ N G m):Ui N m.L:=by
 have x:=h.t.r.1;refine⟨?_,λy=>⟨x,h.s.disk x<|λz=>?_⟩⟩
 .unfold Hm.UJ;split
  .rename_i hr;have:=(h.s.no (b:=0)<|h.s.h.Ti.1 hr).2;rw[show m.L.nd 0=N 0 from this];exact CF (h.t.fit 0 x) K
  exact CF (h.t.fit 0 x) K
 have:=h.s.h.Ti.2 z;rw[show (m.L.M.Me 0 2).isSome=(m.L.M.Me ap 2).isSome from rfl,this] at y;cases y
def Ui.eq (h:Ui N' L) (z:L.UJ N'=L.UJ N) (y:(L.M.Me 0 2).isSome=false->N' 0=N 0):Ui N L:=⟨by rw[<-z];exact h.sm,λx=>by
 obtain⟨a,bk,b,c⟩:=h.d x
 exact⟨a,bk,b,by rw[<-y x];exact c⟩⟩
def HJ.step (h:HJ N G m) (b:TD N m) {B:Nat} (q:m.L.M.Ok B) (k:∀f∈m.fs,f.n<=60000/\f.g<=60000) (p:Int) :
 (∀t∈Sc.oZ m.T,bY N m t)/\Ui N (DY N m p).L/\∃N' l,HJ N' l (DY N m p)/\TD N' (DY N m p)/\Xd N (DY N m p).L N':=by
 refine⟨λt u=>(h.task q k (b.run u).1 (b.run u).2).1,?_⟩;by_cases hr:Sc.oZ m.T=[]
 .have e:DY N m p=m:=by unfold DY;rw[pN hr]
  rw[e];exact⟨h.due,N,G,h,b,λ_ _=>rfl⟩
 have r:=Sc.lJ p hr;have o:HJ N G (m.took p):=⟨h.s,h.t,h.c,h.f,h.n8⟩;have j:FV N (m.took p) (Sc.Og m.T p)=true:=(b.run r).2;obtain⟨_,N',l,A,w⟩:=o.task q k (t:=Sc.Og m.T p) (b.run r).1 j;have x:HJ N' l (m.does N p):=A;have z:Xd N (m.does N p).L N':=w;have e:DY N m p=(m.does N p).Sr (oV N (m.does N p) (m.does N p).T.n (m.does N p).T):=by unfold DY;rw[pQ hr]
 have d:=Xjd x.s.h z
 have y:(m.does N p).cs.length=m.cs.length/\(m.does N p).fs.length=m.fs.length/\(m.does N p).T=Sc.oW m.T p:=by
  unfold HM.does HM.task;split
  .unfold HM.client;split
   .exact⟨sI ..,rfl,rfl⟩
   exact⟨rfl,rfl,rfl⟩
  split
  .unfold HM.flush;split
   .exact⟨rfl,sI ..,rfl⟩
   exact⟨rfl,rfl,rfl⟩
  exact⟨rfl,rfl,rfl⟩
 rw[e];refine⟨x.due.eq d<|λk=>z 0 (λC=>by have v:=x.s.h.Ti.2 C;rw[show ((m.does N p).L.M.Me 0 2).isSome=((m.does N p).L.M.Me ap 2).isSome from rfl,v] at k;cases k),N',l,⟨x.s,x.t,x.c,x.f,x.n8⟩,?_,z⟩;have a:=Wc N (m:=m.does N p) (by rw[y.2.2,Sc.zV,y.1,y.2.1];exact b.tn)<|by rw[y.2.2,Xjc,Sc.zV];exact b.tl
 exact⟨a.tn,a.tl,λi hi o=>(Xje (m:=(m.does N p).Sr<|oV N (m.does N p) (m.does N p).T.n (m.does N p).T) d i).trans<|a.told i hi o⟩
end
def WB (l:cv):Cl:=⟨l,0,.idle⟩
def Lg:Nat->Nd:=λ_=>Vq
def hm0 (nb nf fl:Nat) (ls:List<|cv):HM:=⟨Qw nb nf,ls.map WB,List.replicate fl V6,1,0,[],Sc.WE<|ls.length+(fl+1)⟩
def WR (nb nf fl:Nat) (ls:List<|cv):HM:=(hm0 nb nf fl ls).Sr<|oV Lg (hm0 nb nf fl ls) (ls.length+(fl+1))<|Sc.WE<|ls.length+(fl+1)
def XkA {d n:Nat} {j e i:d0} {cc:List CC} {fs:List FM} {x:HQ} (g:GH x (Qw nb nf) 0) (y:cc.map CC.m=ls.map WB) (a:fs.map FM.m=List.replicate fl V6) (b:ls.length+(fl+1)<=8) (z:∀l∈ls,l.length<=1000):O9 ⟨d,n,j,e,i,cc,fs,x⟩ (hm0 nb nf fl ls) 0 :=
 ⟨g,y,a,by show _=(ls.map WB).length+((List.replicate fl V6).length+1);rw[qY,s9];rfl,Sc.fJ J b,by show (ls.map WB).length+((List.replicate fl V6).length+1)<=8;rw[qY,s9];exact b,λc y=>by
  obtain⟨l,k,rfl⟩:=qj.1 y
  exact⟨z l k,qc _,λh=>wU⟩,λf a=>by rw[(rC.1 a).2];exact⟨qb 0,qb 0⟩,qb 0,⟨by show (1:Int)<=1;omega,by show (1:Int)<=_;omega⟩,qb 0⟩
def ctk (c:CC):Tk:=Tk.c c.b
def aZ (f:FM):Tk:=Tk.f f.b
def XkB (h:HC):h.tks=h.cc.map ctk++h.fl.map aZ++[Tk.e]:=by unfold HC.tks;rw[qQ];rfl
def Xjf:∀(us:List Sv) (ls:List<|cv),us.length=ls.length->WZ (us.drop ls.length) (ls.drop ls.length)=[]:=λus ls h=>by
 rw[List.drop_of_length_le J,List.drop_of_length_le J];rfl
def N9 {f:Vw} (h:(WC nf).fr[i]?=some f):f=Cy:=(rC.1<|show f∈List.replicate nf Cy from ry h).2
def XkC (h:1<=nb) (b:Nat):(st1 nb).us[b]?=some true↔b=0:=by
 show ((List.replicate nb false).set 0 true)[b]?=some true↔_
 rw[BN dO];constructor
 .rintro (⟨e,_⟩|⟨_,e⟩)
  .exact e
  rw[ru] at e;split at e<;>cases e
 intro e;exact .inl ⟨e,rfl⟩
def gL:Gh:=⟨λ_=>0,λ_=>none,λ_=>none,λ_=>none⟩
def gM:BJ Vq=true:=by decide
def lI (v:1<=nb) (p:nb<=256) (F:ls.length+(fl+1)<=8) (A:∀l∈ls,∀o∈l,gI o) (T:Sc.Tab):HJ Lg gL ((hm0 nb nf fl ls).Sr T):=by
 have d:∀(i:Nat) (c:Cl),(ls.map WB)[i]?=some c->∃l∈ls,c=WB l:=λi c y=>by
  rw[qq] at y;obtain⟨l,B,e⟩:=rv.1 y;exact⟨l,ry B,e.symm⟩
 have a:∀(i:Nat) (f:Fl),(List.replicate fl V6)[i]?=some f->f=V6:=λi f x=>(rC.1<|ry x).2
 have hd:Rf (ls.map WB) (List.replicate fl V6)=λ_ _=>none:=by
  funext t b;unfold Rf;split
  .rfl
  split
  .rename_i c y;obtain⟨l,_,rfl⟩:=d _ c y;rfl
  split
  .rename_i f x;rw[a _ f x];unfold V6 Fl.dm;simp
  rfl
 have y:UC (ls.map WB) (List.replicate fl V6)=λ_=>0:=by
  funext t;unfold UC;split
  .rfl
  split
  .rename_i c y;obtain⟨l,_,rfl⟩:=d _ c y;rfl
  split
  .rename_i f x;rw[a _ f x];rfl
  rfl
 have z:∀i,(Qw nb nf).OG i=Lt.newL:=λi=>by
  show (List.replicate nf Lt.newL).getD i Lt.newL=_
  rw[sY,ru];split<;>rfl
 have J:∀b s,s=1\/s=2->¬(WC nf).on b s:=λb s m ⟨i,f,x,_,p⟩=>by
  rw[N9 x] at p;rcases m with rfl|rfl<;>exact absurd p A2
 have u:∀b,(Qw nb nf).U b↔b=0:=XkC v
 have H:(Qw nb nf).U 0:=(u 0).2 rfl;refine⟨⟨?_,⟨λi f x m=>?_,λi f x m=>?_,λb n=>.inr ⟨OX,?_,Xam⟩⟩,?_,?_⟩,⟨⟨H,rfl,rfl,rfl⟩,λb n=>?_,λb _=>gM,λb _=>⟨λ_=>rfl,λ_=>rfl⟩,λb n i k A=>(by simp[Lg,Vq] at A),λb n D=>absurd ((u b).1 n) D,λb _=>⟨λe r=>(by cases r),λe r=>(by cases r),λe r=>(by cases r)⟩⟩,λi c y=>?_,λi f x=>?_,?_⟩
 .show HI (Qw nb nf) (Rf (ls.map WB)<|List.replicate fl V6) (UC (ls.map WB)<|List.replicate fl V6) _
  rw[hd,y];refine⟨λi f x=>?_,by show (List.replicate nf Lt.newL).length=(List.replicate nf Cy).length;rw[s9,s9],λi=>⟨0,by rw[z];exact Lt.fJ⟩,λi j f g x K C _ _=>?_,λt b h=>wU,λt b=>⟨λh=>wU,λh=>(by cases h.1)⟩,λt b=>⟨λh=>wU,λh=>wU⟩,sh,λq E=>(by cases E),sh,λt=>?_⟩
  .rw[N9 x,z];exact⟨λh=>absurd h A2,λ_ t G=>gp G,λh=>absurd h A2,λh=>absurd h A2⟩
  .rw[N9 x] at C;exact absurd C A2
  show (List.replicate nf Cy).countP (isC t)=0
  rw[List.countP_eq_zero];intro f x;rw[(rC.1 x).2];exact λe=>absurd (Ez.1 e).1 A2
 .rw[N9<|show (WC nf).fr[i]?=some f from x] at m;exact absurd m A2
 .rw[N9<|show (WC nf).fr[i]?=some f from x] at m;exact absurd m A2
 .have w:b=0:=(u b).1 n;subst w;show (((List.replicate nb Bk.zero).set 0 Bk.zero).set 0 OX)[0]?=some OX
  rw[tE<|by rw[sI,s9];omega]
 .exact (Uj v p).len
 .exact (Uj v p).n256
 .have:=(u b).1 n;omega
 .obtain⟨l,B,rfl⟩:=d i c y;exact⟨⟨qc _,λe=>zZ⟩,A l B,T0⟩
 .rw[a i f x];exact .inl ⟨A2,A2,rfl⟩
 show (ls.map WB).length+((List.replicate fl V6).length+1)<=8
 rw[qY,s9];exact F
def Xla (x:1<=nb) (h:nb<=256):Ui Lg (Qw nb nf):=(lI (nb:=nb) (nf:=nf) (fl:=0) (ls:=[]) x h K (λl y=>by cases y)<|Sc.WE 1).due
def Xdf (h:ls.length+(fl+1)<=8):TD Lg (WR nb nf fl ls):=by
 have x:(hm0 nb nf fl ls).T.n=ls.length+(fl+1):=rfl;have:=Wc Lg (m:=hm0 nb nf fl ls) (by show ls.length+(fl+1)=(ls.map WB).length+((List.replicate fl V6).length+1);rw[qY,s9]) (Sc.fJ J h).st;exact this
def oF (t:Int):Df prog 52 [aa t] Tr [] (λx:Nat=>BM x) Tr (λx=>[TF x t 1 false false av 0 0]):=by
 intro w z y;refine E0 func52 I y ?_;exact Y I<|A I<|Y I<|r I<|U I (AS ([aa t,aa 1,.bool false,.bool false,av,aa 0,aa 0]) I I uX)<|Z I<|AT I I I I<|λx=>M [aa t,aa 1,.bool false,.bool false,av,aa 0,aa 0] I<|A I<|Al zM
def XcZ {p:d0} {vs:List Sv} {nb nf fl:Nat} (u:1<=nb) (B:nb<=256) (Y:fl<=3) (W:1<=ls.length) (V:ls.length<=4) (X:4*(ls.length+fl)<nf) (k:nf<=64) (A:∀l∈ls,l.length<=24) (R:∀l∈ls,∀o∈l,1<=o.kind/\o.kind<=4):Df prog 18 [.agg #[aa (nb:Int),aa (nf:Int),aa (fl:Int),p]] (λw=>Y5 w p vs ls) [] (λy:HC=>.tuple #[BM y.bH,aa 0]) (λy=>O9 y (WR nb nf fl ls) 0) (λy=>y.H<|WR nb nf fl ls):=by
 intro w S hH;have h3:=S.len;refine E0 func18 I hH ?_;refine Cs I<|LW I<|AT I I I I<|λE=>Ce [aa (nb:Int),aa (nf:Int),aa (fl:Int),p] I<|Nh I<|Ak I<|Ad<|Cs I<|Lq I (Cq ([aa (nb:Int),aa (nf:Int),aa (fl:Int),p]) Y4 Vk 0 I (I)<|I)<|LW I<|E1 (Xkq u B Y W V X k A R) I call49 (λ_ h=>S.keep h)<|λ_ _=>Ak I<|Cs I<|Mv 2 I<|Nk<|Sb 13 false I (I)<|Ab I<|Ah<|Kt<|Cs I<|EJ Vj I Z3 I<|Lo G3 0 I<|EJ Vj I Z3 I<|Lo G3 0 I<|LW I<|Xt (od u B A1 k) I I I call50 I Tt<|λx hx=>Pre.world (St _ _<|Ac E 27 [aa (nb:Int),aa (nf:Int),aa (fl:Int),p]::HQ.H x) (λ_ h=>h.perm<|sV (l₂:=[_])) ?_
 refine Mv 4 I<|Ak I<|Ad<|Cs I<|Mv 2 I<|Nk<|Sb 24 false I (I)<|Ab I<|Ah<|Kt<|Cs I<|Lm I<|EJ Vj I sizeOf25 I<|Lo isAgg25 0 I<|LW I<|Xt (ga A1<|λl C=>qM (A l C) A2) I I I call51 I (λ_ h=>S.keep h) ?_;rintro⟨vO,us⟩ Q;dsimp only at Q;refine Pre.world (St _ _<|AG vO 40 EY us::Ac E 27 [aa (nb:Int),aa (nf:Int),aa (fl:Int),p]::(WZ us ls++HQ.H x)) (λ_ h=>h.perm<|List.Perm.cons _ sQ) ?_;refine WA ?_;rintro⟨z,a,rfl⟩;refine Lq I (AS ([BM x.bh,av,C0,(.slice z us.length a),C0,am 1,aa 0]) I I uX)<|LW I<|AT I I I I<|λg=>Ce [BM x.bh,av,C0,(.slice z us.length a),C0,am 1,aa 0] I<|Ak I<|Ad<|Cs I<|Mv 2 I<|EJ Cz I sizeOf25 I<|Lo isAgg25 0 I<|Lq I (AM I U6 I RF)<|Lm I<|Nk<|Af<|row0 102 Tk.enc none<|Pm [1] I ?_
 refine Fm (λ(i:Nat) (b:d0) (cc:List CC)=>[(1,pV E),(7,BM g),(35,.slice z us.length a),(36,aa (us.length:Int)),(37,aa (i:Int))]) (λ(i:Nat) (b:d0) (cc:List CC)=>St w []<|Ac g 100 [BM x.bh,av,b,(.slice z us.length a),C0,am 1,aa 0]::AG b 102 Tk.enc (cc.map ctk)::AG (.slice z us.length a) 40 EY us::Ac E 27 [aa (nb:Int),aa (nf:Int),aa (fl:Int),p]::(RD 0 cc++(WZ (us.drop i) (ls.drop i)++HQ.H x))) (λ(i:Nat) (b:d0) (cc:List CC)=>i<=us.length/\cc.length=i/\cc.map CC.m=(ls.take i).map WB) (λ(i:Nat) (b:d0) (cc:List CC)=>us.length-i) (0) C0 ([]) ⟨qc _,rfl,rfl⟩ (Si I) Ih<|λi b cc O=>Ad ?_
 obtain⟨hi,G,t⟩:=O;have h5:(cc.map ctk).length=cc.length:=qY ..;refine Cr I<|Lq I (Ql I)<|Ns<|CB 38 I (λh2=>?_)<|λh2=>?_
 .obtain⟨s,hs⟩:=gE us i;obtain⟨l,C⟩:=gE ls i;have P:=Pe C;have Z:=Xim us ls i s l hs C;refine Am I<|Ah<|Ks<|Af<|Cs I<|Lq I (Aw i I U6 UR I ue I I)<|Lq I (AO i 0 I XZ I I ue hs I)<|Ak I<|Cr I<|Mv 3 I<|EJ Cz I Tc I<|Lo VE 0 I<|Lm I<|Lq I (AS ([s.v,aa 0,av,av]) I I uX)<|LW I<|AT I I I I<|λbk=>Ce [s.v,aa ap,av,av] I<|Lq rfl (Ex rfl JD uQ rfl) (LW I<|As (sz:=1) [.tmp 49] I I I I I Ur Im I zeroValue102 I<|λb1=>BP<|LW I<|Ap Ur Ur PN I (λ_ h=>AR kj Tk.enc [(Tk.c bk)] I I) A8<|λv3=>AD<|Ae<|Lc I<|EJ Cz I Tc I<|WA ?_)
  rintro⟨aT,cT,d⟩;refine AQ<|LW I<|AB I I Tc I I Y9 (rO I)<|Ce [BM x.bh,av,v3,(.slice z us.length a),C0,am 1,aa 0] I<|AE<|Au<|Kt<|Cr I<|Lq I (Qi I)<|Lm I<|AE<|Pm [0,0,1,1] I ?_
  exact AJ ((i+1,v3,cc++[cc0 bk s l])) A4 ⟨A4,by simp[G],by rw[P,qR,qR,t];rfl⟩ (Si I)<|λ_ h=>by
   dsimp only;rw[Z] at h;rw[qR];exact h.perm<|X2 [_,_,_,_] cc bk s l _
 have U:i=ls.length:=by omega
 subst U;rw[Xjf us ls A1];rw[pZ<|qb _] at t;have K:cc.length=ls.length:=G;refine Ab I<|AP<|Aa<|Aa<|Ar<|Ks<|Cs I<|EJ Vj I Z3 I<|Lo G3 3 I<|uG ?_;refine Fm (λ(j:Nat) (b:d0) (fs:List FM)=>[(1,pV E),(7,BM g),(56,aa (fl:Int)),(57,aa (j:Int))]) (λ(j:Nat) (b:d0) (fs:List FM)=>St w []<|Ac g 100 [BM x.bh,av,b,(.slice z us.length a),C0,am 1,aa 0]::AG b 102 Tk.enc (cc.map ctk++fs.map aZ)::AG (.slice z us.length a) 40 EY us::Ac E 27 [aa (nb:Int),aa (nf:Int),aa (fl:Int),p]::(RD 0 cc++(Qa cc.length fs++HQ.H x))) (λ(j:Nat) (b:d0) (fs:List FM)=>j<=fl/\fs.length=j/\fs.map FM.m=List.replicate j V6) (λ(j:Nat) (b:d0) (fs:List FM)=>fl-j) (0) b ([]) ⟨qc _,rfl,rfl⟩ (Si I) (λ_ h=>by rw[qH,sG];exact h)<|λj b fs O=>Ad ?_
 obtain⟨hj,M,r⟩:=O;have F:(cc.map ctk++fs.map aZ).length=cc.length+fs.length:=A3;have h4:(fs.map aZ).length=fs.length:=qY ..;refine Cr I<|Lq I (Ql I)<|Ns<|CB 58 I (λL=>?_)<|λL=>?_
 .refine Am I (Ah<|Ks<|Af<|Pre.fact (λ_ h=>CQ kj) ?_);rintro⟨aV,cV,rfl⟩;refine LZ (rg 18) 379507923 (λw2=>(Ac g 100 [BM x.bh,av,(.slice aV (cc.map ctk++fs.map aZ).length cV),(.slice z us.length a),C0,am 1,aa 0]).at w2) I St.drawn uP<|Md 3 I<|Ht Cz I Tc I<|Dq I (Aj I VE I Ih I)<|Md 2 I<|Ht Cz I Tc I<|Dq I (Aj I VE I Ih I)<|Dq I (Fw I Ur I)<|MX I<|Xt (oF _) I I I call52 I Tt<|λN _=>Ai uq<|Dq I (AS ([BM N]) I I uX)<|Dq rfl (Ex rfl TJ uQ rfl) (MX I<|As (sz:=1) [.tmp 71] I I I I I Ur Im I zeroValue102 I<|λb3=>Ai xd<|BP<|MX I<|Ap Ur Ur PN I (λ_ h=>AR kj Tk.enc [(Tk.f N)] I I) A8<|λv4=>AD<|Ae<|Ai xd<|KC I<|OC I I zQ<|KC I<|OC I I (AU I Cz I Tc I I)<|WA ?_)
  rintro⟨aT,cT,d⟩;refine AQ<|KC I<|AB I I Tc I I Y9 (rO I)<|Ce [BM x.bh,av,v4,(.slice z us.length a),C0,am 1,aa 0] I<|AN<|Au<|Kt<|Cr I<|Lq I (Qi I)<|Lm I<|AE<|Pm [0,0,1,1] I ?_
  exact AJ ((j+1,v4,fs++[⟨N,0,V6⟩])) A4 ⟨A4,by simp[M],by dsimp only;rw[qR,r,List.replicate_succ'];rfl⟩ (Si I)<|λ_ h=>by
   dsimp only;rw[F] at h;rw[qR,<-qQ];exact h.perm<|Xgb [_,_,_,_] (RD 0 cc) cc.length fs N _
 have h1:j=fl:=by omega
 subst h1;refine Ab I<|AP<|Aa<|Aa<|Ar<|Kt<|Cs I<|Mv 3 I<|EJ Cz I Tc I<|Lo VE 0 I<|Lq I (AS (([]:bi)) I I uX)<|Lq rfl (Ex rfl underlying111 uQ rfl) (LW I<|As (sz:=1) [.tmp 83] I I I I I Ur Im I zeroValue102 I<|λb4=>AQ<|LW I<|Ap Ur Ur PN I (λ_ h=>AR kj Tk.enc [Tk.e] I I) A8<|λq=>AD<|Ae<|Lc I<|EJ Cz I Tc I<|WA ?_);rintro⟨aT,cT,d⟩;have J:((cc.map ctk++fs.map aZ)++[Tk.e]).length=ls.length+(j+1):=by simp[K,M]
 refine AD<|LW I<|AB I I Tc I I Y9 (rO I)<|Ce [BM x.bh,av,q,(.slice z us.length a),C0,am 1,aa 0] I<|Ns<|Cs I<|Mv 3 I<|EJ Cz I Tc I<|Lo VE 0 I<|Lq I (AM I Ur I RF)<|LH 94 (aa ((ls.length+(j+1):Nat):Int)) I (by rw[J])<|LW I<|AX (Sc.Xlj (n:=ls.length+(j+1)) A1 A1) I I I call53 I Tt<|λD _=>Lm I<|Mv 3 I<|EJ Cz I Xf I<|AD<|LW I<|AB I I Xf I I I (rO I)<|Ce [BM x.bh,BM D,q,(.slice z us.length a),C0,am 1,aa 0] I<|Ak I<|Cs I<|Mv 2 I<|Nk<|Sb 101 false I (I)<|Ab I<|Ah<|Kt<|Cs I<|Lm I<|row0 71 O1.enc none<|Cd<|Ae<|Cd ?_
 refine Ae<|Pm [1,0,1] I ?_;have kz:O9 (⟨g,D,q,(.slice z us.length a),C0,cc,fs,x⟩:HC) (hm0 nb nf j ls) 0:=XkA ⟨hx.1,hx.2⟩ t r A1<|λl C=>qM (A l C) A2
 refine Pre.world (St w []<|HC.H (⟨g,D,q,(.slice z us.length a),C0,cc,fs,x⟩:HC)<|hm0 nb nf j ls) (λ_ h=>?_) ?_
 .show St w [] (_::_::AG q 102 Tk.enc (HC.tks (⟨g,D,q,(.slice z us.length a),C0,cc,fs,x⟩:HC))::_) _
  rw[XkB];exact h
 refine LW I<|Ee [] (VS kz Lg<|Xla u B) I call42 Tt<|λ_ _=>Pw (St _ _<|HC.H (⟨g,D,q,(.slice z us.length a),C0,cc,fs,x⟩:HC)<|(hm0 nb nf j ls).Sr<|oV Lg (hm0 nb nf j ls) (hm0 nb nf j ls).T.n (hm0 nb nf j ls).T) ?_
 exact Nk<|Cs I<|Mv 2 I<|Ak I<|Al<|Bw (rs:=[.tmp 2,.tmp 3]) I I<|λ_ h=>⟨(⟨g,D,q,(.slice z us.length a),C0,cc,fs,x⟩:HC),rfl,kz.oV Lg _,h⟩
def Cv (g:tx a=a.b.take m) (f:tx b=b.b.take k) (hm:m<=8) (d:k<=8) (y:i<m) (x:i<k) (e:D9 (tx a) (tx b)=D9 ((tx a).drop i) ((tx b).drop i)) :
 D9 (tx a) (tx b)=if a.b.getD i 0<b.b.getD i 0 then -1 else if b.b.getD i 0<a.b.getD i 0 then 1 else D9 ((tx a).drop<|i+1) ((tx b).drop<|i+1):=by
 have z:∀{c:c3} {n:Nat},tx c=c.b.take n->n<=8->i<n->(tx c).drop i=c.b.getD i 0::(tx c).drop (i+1):=λ{c n} h hn hi=>by
  have l:(tx c).length=n:=by rw[h];simp[c.len];omega
  rw[pC J];congr 1;have j:i<c.b.length:=by rw[c.len];omega
  rw[sY,pE j];simp only[h,List.getElem_take,qx]
 rw[e,z g hm y,z f d x,D9]
def gN (hm:(tx a).length=m) (g:(tx b).length=k) (e:D9 (tx a) (tx b)=D9 ((tx a).drop i) ((tx b).drop i)) :
 (m<=i->k<=i->Bs a b=0)/\(m<=i->i<k->Bs a b = -1)/\(i<m->k<=i->Bs a b=1):=by
 unfold Bs;have y:∀{l:bf},l.length<=i->l.drop i=[]:=λh=>List.drop_eq_nil_of_le h
 have f:∀{l:bf},i<l.length->∃x t,l.drop i=x::t:=λ{l} h=>⟨l[i],l.drop<|i+1,pC h⟩
 refine⟨λc d=>?_,λc d=>?_,λc d=>?_⟩
 .rw[e,y J,y J];rfl
 .obtain⟨x,t,z⟩:=f (l:=tx b) J;rw[e,y J,z];rfl
 obtain⟨x,t,z⟩:=f (l:=tx a) J;rw[e,z,y (l:=tx b) J];rfl
def Ft (h:l.length=m):(kc n l).length=m+1:=by simp[h]
def Wd {m:Int} {k:bf} {d:Nat} (h:l.length=d) (x:k.length=d):Sep.splice (kc n l) 0 (kc m k)=kc m k:=Sep.oR<|by rw[Ft h,Ft x]
def Xbi {b:UInt8} (x:s[i]?=some b) (h:i<m):(kc n<|(Q5 s).take i++List.replicate (m-i) 0).set (0+1+i*1) (ab (b.toNat:Int))=kc n ((Q5 s).take (i+1)++List.replicate (m-(i+1)) 0):=by
 rw[Xj9];congr 1
 have y:i<s.size:=by
  rcases pG i s.size with h|h
  .exact h
  rw[getElem?_neg s i J] at x;cases x
 have a:i<(Q5 s).length:=by rw[FU];exact y
 have e:(Q5 s)[i]?=some (b.toNat:Int):=by
  rw[getElem?_pos s i y] at x;unfold Q5;rw[qq,s7,s8 y];exact congrArg (λz:Option UInt8=>z.map<|λb=>(b.toNat:Int)) x
 rw[sH,e,rJ _ _ gg];rw[show m-i=(m-(i+1))+1 from by omega,pS];simp[show min i (Q5 s).length=i by omega]
def Xgf (h:s.size<=8):kc (s.size:Int) ((Q5 s).take s.size++List.replicate (8-s.size) 0)=(ZG s h).c:=by
 show _=kc (((Q5 s).length:Nat):Int) (Q5 s++List.replicate (8-(Q5 s).length) 0)
 rw[FU,pZ<|by rw[FU];exact qb _]
def Xgg (h:s.size<=16):kc (s.size:Int) ((Q5 s).take s.size++List.replicate (16-s.size) 0)=(XR s h).c:=by
 show _=kc (s.size:Int) (Q5 s++List.replicate (16-(Q5 s).length) 0)
 rw[FU,pZ<|by rw[FU];exact qb _]
def Tg (h:s.size<=m) (hi:i<=s.size):((Q5 s).take i++List.replicate (m-i) 0).length=m:=by
 have:=FU s;simp;omega
def cK (h:i<s.size):∃b,s[i]?=some b:=⟨s[i]'h,getElem?_pos s i h⟩
def JS (a b:c3) (F:OI a) (J:OI b):Df prog 62 [.agg a.c.toArray,.agg b.c.toArray] Tr [] (λ_:Unit=>aa<|Bs a b) Tr (λ_=>[]):=by
 intro w L v;obtain⟨m,hm,x,y,k,_⟩:=EI F;obtain⟨q,K,z,d,l,_⟩:=EI J;refine E0 func62 I v<|Cs I<|LW I<|AT I I I I<|λr=>Ce a.c I<|LW I<|AT I I I I<|λs=>Ce b.c I<|Ak I<|Ad<|zF ?_
 refine Bm (λ(i:Nat)=>[(2,BM r),(3,BM s),(5,aa (i:Int))]) (λ(i:Nat)=>St w [] [Ac s 77 b.c,Ac r 77 a.c]) (λ(i:Nat)=>i<=8/\D9 (tx a) (tx b)=D9 ((tx a).drop i) ((tx b).drop i)) (λ(i:Nat)=>8-i) (0) ⟨qc _,rfl⟩ (Si I) Ih<|λi u=>Ad<|Ad ?_
 obtain⟨hi,e⟩:=u;obtain⟨f,g,j⟩:=gN k l e;refine Cr I<|Mv 2 I<|Nk<|CB 7 I (λC=>?_)<|λC=>?_
 .refine Am I (Ah<|Ks<|Af<|Af<|Cs I<|Lm I<|EJ Pn I Z3 I<|Lo G3 1 I<|Mv 2 I<|CB 15 I (λD=>?_)<|λD=>?_)
  .refine Lm I (EJ Pn I Z3 I<|Lo G3 0 I<|Mv 2 I<|Ak I<|CB 10 I (λB=>?_)<|λB=>?_)
   .exact A7
   refine Ab I (Cs I<|Lm I<|EJ Pn I Z3 I<|Lo G3 1 I<|Lq I (Qg I)<|Ak I<|CB 21 I (λH=>?_)<|λH=>?_)
   .exact A7
   refine Ab I (Cs I<|Lm I<|EJ Pn I Z3 I<|Lo G3 0 I<|Lq I (Qg I)<|Ak I<|CB 26 I (λA=>?_)<|λA=>?_)
   .exact A7
   refine Ab I (Ad<|LZ (rg 10) 0 _ I St.drawn Ih<|Dm I<|Ht Pn I UW I<|Dq I yM<|Dq I iW<|Dm I<|Ht Pn I UW I<|Dq I yM<|Dq I iV<|Md 2 I<|AN<|Kt<|CB 31 I (λt=>?_)<|λt=>?_)
   .exact A7
   refine Ab I (Ad<|LZ (rg 10) 0 _ I St.drawn Ih<|Dm I<|Ht Pn I UW I<|Dq I yM<|Dq I iW<|Dm I<|Ht Pn I UW I<|Dq I yM<|Dq I iV<|Dq I vd<|Sz I<|AN<|Kt<|CB 41 I (λG=>?_)<|λG=>?_)
   .exact A7
   exact ZAJ
  refine Mv 5 I (Ak I<|Ab I<|Cs I<|Lm I<|EJ Pn I Z3 I<|Lo G3 1 I<|Lq I (Qg I)<|Ak I<|CB 21 I (λE=>?_)<|λE=>?_)
  .exact A7
  refine Ab I (Cs I<|Lm I<|EJ Pn I Z3 I<|Lo G3 0 I<|Lq I (Qg I)<|Ak I<|CB 26 I (λn=>?_)<|λn=>?_)
  .exact A7
  refine Ab I (Ad<|LZ (rg 10) 0 _ I St.drawn Ih<|Dm I<|Ht Pn I UW I<|Dq I yM<|Dq I iW<|Dm I<|Ht Pn I UW I<|Dq I yM<|Dq I iV<|Md 2 I<|AN<|Kt<|CB 31 I (λo=>?_)<|λo=>?_)
  .exact A7
  refine Ab I (Ad<|LZ (rg 10) 0 _ I St.drawn Ih<|Dm I<|Ht Pn I UW I<|Dq I yM<|Dq I iW<|Dm I<|Ht Pn I UW I<|Dq I yM<|Dq I iV<|Dq I vd<|Sz I<|AN<|Kt<|CB 41 I (λp=>?_)<|λp=>?_)
  .exact A7
  exact ZAJ
 exact Ab I<|AP<|Aa<|Aa<|Ar<|Kt<|Cs I<|Ak I<|Al<|Av I I<|λ_ h=>⟨(),congrArg Ei (by first|exact (f A1 A1).symm),T0,h.oS⟩
def Xgh (s:ByteArray) (y:s.size<=8):Df prog 67 [.string s] Tr [] (λ_:Unit=>.tuple #[.agg (ZG s y).c.toArray,aa 0]) Tr (λ_=>[]):=by
 intro w j g;have x:(List.replicate 8 (0:Int)).length=8:=s9 ..;refine E0 func67 I g ?_;refine Y I<|Z I<|Ax I I I zeroValue77<|λe=>M (kc 0<|List.replicate 8 0) I<|A I<|Y I<|U I (AS (kc 0<|List.replicate 8 0) I I uX)<|Z I<|Ax I I I zeroValue77<|λbk=>M (kc 0<|List.replicate 8 0) I<|Z I<|SA MW I P0<|Bb (Wd x x)<|Ns<|Y I<|r I<|U I YK<|U I vd<|Nk<|Sf 9 I J<|Ab I<|Ah<|Kt<|Y I<|r I<|U I YK<|EJ Pn I Z3 I<|Z I<|AB I I Z3 I I I (by rw[Ft x];decide)<|Bb (mq)<|Ns<|Y I<|A I ?_
 refine Af ?_;refine Bm (λ(i:Nat)=>[(0,.string s),(2,BM e),(3,aa 0),(4,BM bk),(5,aa (i:Int))]) (λ(i:Nat)=>St w [] [Ac bk 77<|kc (s.size:Int)<|(Q5 s).take i++List.replicate (8-i) 0,Ac e 77<|kc 0<|List.replicate 8 0]) (λ(i:Nat)=>i<=s.size) (λ(i:Nat)=>s.size-i) (0) (qc _) (Si I) Ih<|λi hi=>E<|E ?_
 have z:=Tg y hi;refine Cr I<|C 2 I<|U I YK<|U I (Ql I)<|Nk<|B 17 I (λf=>?_)<|λf=>?_
 .obtain⟨b,d⟩:=cK (s:=s) (i:=i) J;refine Am I<|Ah<|Ks<|Af<|Cr I<|C 3 I<|U I (Rr i _ I U9 I I I d)<|EJ Pn I UW I<|U I yM<|Z I<|AB I I Z5 I I I (by rw[Ft z];show 0+1+i*1<9;omega)<|Bb (Xbi d J)<|AE<|Po ?_;exact vV
 have a:i=s.size:=by omega
 subst a;rw[Xgf y];exact Ab I<|AP<|Aa<|Aa<|Ar<|Kt<|Y I<|U I ZGu<|AD<|Z I<|AF I I MW I I Nw PU (by rw[Kv.oQ,Ft x];decide)<|Bb (Sep.oR<|by rw[Kv.oQ,Ft x])<|A I<|Al<|C1 I bU (id I) uZ
def Xhg (s:ByteArray) (y:s.size<=16):Df prog 69 [.string s] Tr [] (λ_:Unit=>.tuple #[.agg (XR s y).c.toArray,aa 0]) Tr (λ_=>[]):=by
 intro w j g;have x:(List.replicate 16 (0:Int)).length=16:=s9 ..;refine E0 func69 I g ?_;refine Y I<|Z I<|Ax I I I zeroValue56<|λe=>M (kc 0<|List.replicate 16 0) I<|A I<|Y I<|U I (AS (kc 0<|List.replicate 16 0) I I uX)<|Z I<|Ax I I I zeroValue56<|λbk=>M (kc 0<|List.replicate 16 0) I<|Z I<|SA O6 I P0<|Bb (Wd x x)<|Ns<|Y I<|r I<|U I YK<|U I vd<|Nk<|Sf 9 I J<|Ab I<|Ah<|Kt<|Y I<|r I<|U I YK<|EJ VX I Z3 I<|Z I<|AB I I Z3 I I I (by rw[Ft x];decide)<|Bb (mq)<|Ns<|Y I<|A I ?_
 refine Af ?_;refine Bm (λ(i:Nat)=>[(0,.string s),(2,BM e),(3,aa 0),(4,BM bk),(5,aa (i:Int))]) (λ(i:Nat)=>St w [] [Ac bk 56<|kc (s.size:Int)<|(Q5 s).take i++List.replicate (16-i) 0,Ac e 56<|kc 0<|List.replicate 16 0]) (λ(i:Nat)=>i<=s.size) (λ(i:Nat)=>s.size-i) (0) (qc _) (Si I) Ih<|λi hi=>E<|E ?_
 have z:=Tg y hi;refine Cr I<|C 2 I<|U I YK<|U I (Ql I)<|Nk<|B 17 I (λf=>?_)<|λf=>?_
 .obtain⟨b,d⟩:=cK (s:=s) (i:=i) J;refine Am I<|Ah<|Ks<|Af<|Cr I<|C 3 I<|U I (Rr i _ I U9 I I I d)<|EJ VX I sizeOf54 I<|U I (Bv i I bJ Z5 I I I)<|Z I<|AB I I Z5 I I I (by rw[Ft z];show 0+1+i*1<17;omega)<|Bb (Xbi d J)<|AE<|Po ?_;exact vV
 have a:i=s.size:=by omega
 subst a;rw[Xgg y];exact Ab I<|AP<|Aa<|Aa<|Ar<|Kt<|Y I<|U I (Cq ((XR s y).c) Tz O6 0 I (Bq _) Nw)<|AD<|Z I<|AF I I O6 I I Nw PU (by rw[Kv.oQ,Ft x];decide)<|Bb (Sep.oR<|by rw[Kv.oQ,Ft x])<|A I<|Al<|C1 I xH (id I) uZ
def Xfs {v:Int} (y:0<n):(if v.tmod n<0 then v.tmod n+n else v.tmod n)=v%n:=by
 have b:=Int.tmod_lt_of_pos v y;have c : -n<v.tmod n:=Int.lt_tmod_of_pos v y;have a:=Int.mul_tdiv_add_tmod v n
 have key:∀r:Int,0<=r->r<n->(∃q,v=n*q+r)->r=v%n:=by
  rintro r h x ⟨q,z⟩;rw[z,Int.mul_add_emod_self_left,Int.emod_eq_of_lt h x]
 split
 .exact key _ J J ⟨v.tdiv n-1,by rw[Int.mul_sub];omega⟩
 exact key _ J J ⟨v.tdiv n,J⟩
def IN (v n:Int) (y:0<n) (z:n<=4611686018427387904):Df prog 27 [aa v,aa n] Tr [] (λ_:Unit=>aa<|v%n) Tr (λ_=>[]):=by
 intro w b a;have c:=Int.tmod_lt_of_pos v y;have d : -n<v.tmod n:=Int.lt_tmod_of_pos v y;have x:=Xfs (v:=v) y;refine E0 func27 I a<|Y I<|A I<|Y I<|C 2 I<|U I (Yy I I I J)<|A I<|E<|Y I<|C 2 I<|Nk<|B 10 I (λh=>?_)<|λh=>?_
 .rw[pN h] at x;exact Am I<|Cr I<|C 2 I<|U I py<|A I ZDD
 rw[pQ h] at x;exact Ab I<|Ah<|Kt ZDD
def FY (k:c3):Df prog 60 [.agg k.c.toArray] Tr [] (λ_:Unit=>.bool<|OI k) Tr (λ_=>[]):=by
 intro w q l;refine E0 func60 I l<|Y I<|Z I<|AT I I I I<|λbk=>M k.c I<|A I<|E<|Y I<|EJ Pn I Z3 I<|Lo G3 0 I<|C 2 I<|B 7 I (λy=>?_)<|λy=>?_
 .rw[Xce y];exact C 4 I<|Nk zf
 refine EJ Pn I Z3 I (Lo G3 0 I<|U I vd<|U I (Qz I)<|Nk<|B 11 I (λa=>?_)<|λa=>?_)
 .rw[Xcf a];exact zf
 obtain⟨m,hm,x⟩:∃m:Nat,k.n=(m:Int)/\m<=8:=jT
 refine Ab I<|Ah<|Ks<|Y I<|EJ Pn I Z3 I<|Lo G3 0 I<|A I<|Af ?_;refine Bm (λ(i:Nat)=>[(1,pV bk),(3,aa (i:Int))]) (λ(i:Nat)=>St w [] [Ac bk 77 k.c]) (λ(i:Nat)=>i<=8/\m<=i/\∀j,m<=j->j<i->k.b.getD j 0=0) (λ(i:Nat)=>8-i) m ⟨x,qb _,λj y a=>J⟩ (Sn I<|Sub.RJ I Yq Sub.nil) Ih<|λi g=>E<|E ?_
 obtain⟨hi,o,f⟩:=g;refine Cr I<|C 2 I<|Nk<|B 15 I (λd=>?_)<|λd=>?_
 .refine Am I (Ah<|Ks<|Af<|Y I<|r I<|EJ Pn I UW I<|U I yM<|U I (Aj I G5 I uP<|jn k J)<|U I (Qn I)<|Nk<|B 22 I (λz=>?_)<|λz=>?_)
  .have e:OI k=false:=jo (i:=i) J J jc;rw[e];exact Am I<|Y I<|A I<|Al<|AA<|Ag<|Ag<|AA<|Ag Yu
  refine YM ?_
  exact AJ (i+1) J ⟨J,J,λj y a=>by
   rcases tN.1 a with p|rfl
   .exact f j y p
   simpa using z⟩ (Si I) Jx
 have e:OI k=true:=Vc hm x (λj y a=>f j y J);rw[e];exact Ab I<|AP<|Aa<|Aa<|Ar<|Kt<|Y I XF
def XkD (s:ByteArray) (h:s.size<=8):Df prog 67 [.string s] Tr [] (λq:c3=>.tuple #[.agg q.c.toArray,aa 0]) (λq=>OI q=true) (λ_=>[]):=λw x y=>(Xgh s h w x y).mono<|λe w' ⟨_,h1,h2,h3⟩=>⟨ZG s h,h1,Xcg _ _ _,h3⟩
def XkE (s:ByteArray) (h:s.size<=16):Df prog 69 [.string s] Tr [] (λq:Kv 16=>.tuple #[.agg q.c.toArray,aa 0]) Tr (λ_=>[]):=λw x y=>(Xhg s h w x y).mono<|λe w' ⟨_,h1,h2,h3⟩=>⟨XR s h,h1,T0,h3⟩
def BV (l:bf):(strOfNums l).size=l.length:=by unfold strOfNums;simp[ByteArray.size]
def nQ {k:c3} (h:OI k):∃m:Nat,k.n=(m:Int)/\m<=8:=by unfold OI at h;have:=sW h;exact jT
def Xlb {k:Kv 16} (h:Qd k):∃m:Nat,k.n=(m:Int)/\m<=16:=by unfold Qd at h;have:=sW h;exact jT
def Xju {d:Nat} (k:Kv d) {m:Nat}:(k.c.drop 1).take (m*dt.sz)=dt.flat (k.b.take m):=by
 rw[Hx];show ((k.b.map<|Value.int .u8)).take (m*1)=_
 rw[sZ,List.map_take]
def cL (l:bf) {d:Nat} (h:l.length<=d):(strOfNums l).size<=d:=by rw[BV];exact h
def cM (k:c3):Df prog 110 [.agg k.c.toArray] Tr [] (λt:ByteArray=>.string t) (λt=>t.size<=8) (λ_=>[]):=by
 intro w d a;refine E0 func110 I a<|Y I<|Z I<|AT I I I I<|λbk=>M k.c I<|A I<|E<|Y I<|U I zw<|Z I<|E1 (FY k) I call60 Tt<|λ_ _=>U I (Qt I)<|Nk<|B 5 I (λx=>?_)<|λx=>?_
 .exact ZDO
 obtain⟨m,hm,z⟩:=nQ x;have y:=k.len;exact Ab I<|Ah<|Kt<|Y I<|EJ Pn I UW I<|EJ Pn I Z3 I<|Lo G3 0 I<|U I wZ ZAc
def cN (k:Kv 16):Df prog 112 [.agg k.c.toArray] Tr [] (λt:ByteArray=>.string t) (λt=>t.size<=16) (λ_=>[]):=by
 intro w d a;refine E0 func112 I a<|Y I<|Z I<|AT I I I I<|λbk=>M k.c I<|A I<|E<|Y I<|U I (Cq k.c Tz O6 0 I (Bq _) Nw)<|Z I<|E1 (Is k) I call61 Tt<|λ_ _=>U I (Qt I)<|Nk<|B 5 I (λx=>?_)<|λx=>?_
 .exact ZDO
 obtain⟨m,hm,z⟩:=Xlb x;have y:=k.len;exact Ab I<|Ah<|Kt<|Y I<|EJ VX I sizeOf54 I<|EJ VX I Z3 I<|Lo G3 0 I<|U I (C9 m I bJ Z5 I I hm J) ZAc
def cP (v:Int):Df prog 113 [aa v] Tr [] (λk:Kv 16=>.agg k.c.toArray) Tr (λ_=>[]):=by
 intro w r e;refine E0 func113 I e<|Y I<|Z I<|Ax I I I zeroValue56<|λz=>M (Na 16).c I<|Nk<|Y I<|Lm I<|Z I<|E1 oN I call27 Tt<|λ_ _=>A I<|E ?_
 obtain⟨k,j,g⟩:∃k:Nat,v%1099511627776=(k:Int)/\k<1099511627776:=nR
 refine LH 3 (aa (k:Int)) I (by rw[j]) ?_;obtain⟨n,o,b⟩:∃n:Nat,(k:Int)%17=(n:Int)/\n<17:=⟨k%17,J,J⟩
 refine Cr I<|Lm I<|U I wB<|A I<|E<|LH 4 (aa (n:Int)) I (by rw[o])<|Cr I<|Lm I<|Z I<|CY dt 0 n I I I O7 Gt I I I I I I I (by simp only[Rp];omega) J<|λvb=>A I<|E<|zF ?_
 refine B6 (λ(i:Nat) (l:bf)=>[(2,pV z),(3,aa (k:Int)),(4,aa (n:Int)),(5,vb),(6,aa (i:Int))]) (λ(i:Nat) (l:bf)=>St w [] [AG vb 5 dt l,Ac z 56 (Na 16).c]) (λ(i:Nat) (l:bf)=>i<=n/\l.length=n) (λ(i:Nat) (l:bf)=>n-i) (0) (List.replicate n 0) ⟨qc _,A3⟩ (Si I) Ih<|λi l d=>E<|E ?_
 obtain⟨hi,m⟩:=d;refine Cr I<|C 3 I<|Nk<|B 17 I (λy=>?_)<|λy=>?_
 .have a:(0:Int)<=(i:Int)*((k:Int)/4352)/\(i:Int)*((k:Int)/4352)<=17592186044416:=by
   have f:(i:Int)*((k:Int)/4352)=((i*(k/4352):Nat):Int):=by rw[sF,Int.natCast_ediv];rfl
   have q:i*(k/4352)<=16*1099511627776:=Nat.mul_le_mul J J;rw[f];omega
  refine Am I<|Ah<|Ks<|Af<|Cr I<|C 3 I<|U I xg<|C 2 I<|U I xg<|U I Yz<|U I py<|U I (KF I U3 U5 I)<|U I (Aw i I O7 Z5 I ur I I)<|Z I<|DR i 0 ((IntKind.u8.wrap<|(k:Int)/17+(i:Int)*((k:Int)/4352))) I I Z5 I I I (pE J) K I ?_;refine AE<|Po ?_;exact AJ ((i+1,l.set i<|IntKind.u8.wrap<|(k:Int)/17+(i:Int)*((k:Int)/4352))) A4 ⟨A4,by dsimp only;rw[sI];exact m⟩ (Si I) Jx
 exact Ab I<|AP<|Aa<|Aa<|Ar<|Kt<|Y I<|Lm I<|U I (Gu I O7 U5 U9 I ur)<|Ae<|Z I<|E1 (XkE _<|by rw[BV];omega) I call69 Tt<|λx _=>Lm I<|C 2 I<|Z I<|Ax I I I zeroValue56<|λp=>M (Na 16).c I<|Z I<|AF I I O6 I I Nw PU vZ<|Bb gX<|A I<|Y I<|U I (Cq x.c Tz O6 0 I (Bq _) Nw)<|AD<|Z I<|AF I I O6 I I Nw PU vZ<|Bb gX<|Nk<|Al<|CE I xH<|λ_ h=>⟨x,rfl,T0,h.oS⟩
section
variable {P:d8} {n:Nat} {L:Env} {X:aU} {o:Oper}
def zY {t u:d4} {x y:d5} {p q:ByteArray} (b:o.op=.binOp .add t x y u) (a:ev L x=some (.string p)) (c:ev L y=some (.string q)) (d:p.size+q.size<=9223372036854775807):MV P n L X o (.string<|p++q) :=
 DJ b a c (λw _=>by
  have h:(binOp .add t (.string p)<|.string q).run P w=.ok (.string<|p++q) w:=by
   have z:¬((p.size+q.size:Nat):Int)>IntKind.i64.max:=by
    exact ZFj
   show (Go.Op.stringOp .add p q).run P w=_
   unfold Go.Op.stringOp;simp only[pQ z];rfl
  exact Fv I h)
end
def Xhh (z:Int):(Lit.int .u64<|IntKind.u64.wrap z).wf=true:=by
 simp only[Lit.wf,qW,rA,pA];exact⟨bW,by show _<=(2^64-1:Int);omega⟩
def XaH {z:Int} (x:0<=z) (h:z<=65536):(Lit.int .i64 z).wf=true:=by
 exact ZCE
def lL (v:Int):Df prog 111 [aa v] Tr [] (λk:c3=>.agg k.c.toArray) Tr (λ_=>[]):=by
 intro w B g;refine E0 func111 I g<|Cs I<|LW I<|Ax I I I zeroValue77<|λb=>Ce (Na 8).c I<|Nk<|Cs I<|Lm I<|LW I<|E1 oN I call27 Tt<|λ_ _=>Ak I<|Cs I<|Ak I<|Ad<|Cs I<|Lm I<|Lq I wB<|Nk ?_
 obtain⟨k,o,n⟩:∃k:Nat,v%1099511627776=(k:Int)/\k<1099511627776:=nR
 refine LH 3 (aa (k:Int)) I (by rw[o]) ?_;refine ES (λ(s:ByteArray)=>[(2,BM b),(4,.string s)]) (λ(s:ByteArray)=>St w [] [Ac b 77 (Na 8).c]) (λ(s:ByteArray)=>s.size<=8) ?_ ?_
 .refine Af (Ad<|Cs I<|Lq I (Qe I)<|Ak I<|CB 25 I (λm=>?_)<|λm=>?_)
  .refine Am I (Ah<|Kt<|Am I<|Cr I<|Lm I<|Lq I xg<|Lq I wB<|Lq I py<|Lq I wx<|LW I<|As (sz:=1) [.tmp 33] I I I I I O7 Z5 I zeroValue5 I<|λC=>Lq I yY<|Y8 ?_);exact zo
  refine Ab I (Cs I<|Lq I (Qe I)<|Ak I<|CB 25 I (λq=>?_)<|λq=>?_)
  .refine Am I (Ah<|Kt<|Am I<|Cr I<|Lm I<|Lq I xg<|Lq I wB<|Lq I py<|Lq I wx<|LW I<|As (sz:=1) [.tmp 33] I I I I I O7 Z5 I zeroValue5 I<|λA=>Lq I yY<|Y8 ?_);exact zo
  refine Ab I (Cr I<|Lq I (Qe I)<|Ak I<|CB 25 I (λf=>?_)<|λf=>?_)
  .refine Am I (Cr I<|Lm I<|Lq I xg<|Lq I wB<|Lq I py<|Lq I wx<|LW I<|As (sz:=1) [.tmp 33] I I I I I O7 Z5 I zeroValue5 I<|λD=>Lq I yY<|Y8 ?_);exact zo
  refine Ab I (Ad<|Cs I<|Lq I (Qe I)<|Ak I<|CB 36 I (λr=>?_)<|λr=>?_)
  .refine Am I (Ah<|Kt<|Am I<|Cr I<|Lm I<|Lq I xg<|Lq I wB<|Lq I py<|Lq I wx<|Lm I<|Lq I xg<|Lq I wB<|Lq I py<|Lq I wx<|LW I<|As (sz:=1) [.tmp 43,.tmp 48] I I I I I O7 Z5 I zeroValue5 I<|λt=>Lq I Xed<|Y8 ?_);exact zo
  refine Ab I (Cr I<|Lq I (Qe I)<|Ak I<|CB 36 I (λj=>?_)<|λj=>?_)
  .refine Am I (Cr I<|Lm I<|Lq I xg<|Lq I wB<|Lq I py<|Lq I wx<|Lm I<|Lq I xg<|Lq I wB<|Lq I py<|Lq I wx<|LW I<|As (sz:=1) [.tmp 43,.tmp 48] I I I I I O7 Z5 I zeroValue5 I<|λi=>Lq I Xed<|Y8 ?_);exact zo
  refine Ab I (Cs I<|Lq I (Qe I)<|Ak I<|CB 51 I (λy=>?_)<|λy=>?_)
  .refine Am I (Cr I<|Lm I<|Lq I xg<|Lq I wB<|Lq I py<|Lq I wx<|Lm I<|Lq I xg<|Lq I wB<|Lq I wx<|Lm I<|Lq I xg<|Lq I wB<|Lq I wx<|Lm I<|Lq I xg<|Lq I wB<|Lq I py<|Lq I wx<|LW I<|As (sz:=1) [.tmp 57,.const<|ab 0,.tmp 61,.tmp 65,.const<|ab 255,.const<|ab 120,.const<|ab 121,.tmp 70] I I I I I O7 Z5 I zeroValue5 I ?_);intro p;refine Lq I (Gu (l:=[97+(k:Int)/8%4,0,(k:Int)/32%256,(k:Int)/8192%4,255,120,121,97+(k:Int)/32768%3]) I O7 U5 U9 I<|λ_ h=>AR wG dt [97+(k:Int)/8%4,0,(k:Int)/32%256,(k:Int)/8192%4,255,120,121,97+(k:Int)/32768%3] I I)<|Y8 ?_;exact zo
  refine Ab I (Cs I<|Lq I (Qe I)<|Ak I<|CB 73 I (λa=>?_)<|λa=>?_)
  .refine Am I (Cr I<|Lm I<|Lq I xg<|Lq I wB<|Lq I py<|Lq I wx<|Lm I<|Lq I xg<|Lq I wB<|Lq I py<|Lq I wx<|LW I<|As (sz:=1) [.tmp 79,.const<|ab 108,.const<|ab 111,.const<|ab 110,.const<|ab 103,.const<|ab 101,.const<|ab 114,.tmp 84] I I I I I O7 Z5 I zeroValue5 I<|λd=>Lq I (Gu (l:=[98+(k:Int)/8%3,108,111,110,103,101,114,48+(k:Int)/24%9]) I O7 U5 U9 I<|λ_ h=>AR wG dt [98+(k:Int)/8%3,108,111,110,103,101,114,48+(k:Int)/24%9] I I)<|Y8 ?_);exact zo
  refine Ab I (Cr I<|Lm I<|Lq I xg<|Lq I wB<|Lq I wx<|Lm I<|Lq I xg<|Lq I wB<|Lq I wx<|LW I<|As (sz:=1) [.tmp 14,.tmp 18] I I I I I O7 Z5 I zeroValue5 I<|λe=>Lq I (Gu (l:=[(k:Int)/8%256,(k:Int)/2048%256]) I O7 U5 U9 I<|λ_ h=>AR wG dt [(k:Int)/8%256,(k:Int)/2048%256] I I)<|Lm I<|Lq I xg<|Lq I wB<|Lq I (XfM (((k:Int)/524288%3).toNat) I U9 I I A1<|by rw[BV];simp only[pz,sR];omega)<|Y8 ?_);exact zo
 intro s z;exact Cs I<|Lm I<|LW I<|E1 (XkD s z) I call67 Tt<|λx _=>Lm I<|Mv 2 I<|LW I<|Ax I I I zeroValue77<|λu=>Ce (Na 8).c I<|LW I<|AF I I MW I I Nw PU vZ<|Bb gX<|Ak I<|Cs I<|Lq I (Cq x.c OO MW 0 I (Bq _) Nw)<|AD<|LW I<|AF I I MW I I Nw PU vZ<|Bb gX<|Nk<|Al<|CE I bU<|λ_ h=>⟨x,rfl,T0,h.oS⟩