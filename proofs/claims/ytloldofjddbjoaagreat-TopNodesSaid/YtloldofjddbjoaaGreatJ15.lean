/- Part 15. -/
import Derived.Test.YtloldofjddbjoaaGreatJ14
set_option linter.all false
set_option maxHeartbeats 8000000
set_option maxRecDepth 100000
namespace Go.Proofs.YtloldofjddbjoaaGreat
open Go.Sep Go.RowKit Tryz
variable {B n k i g:Nat} {m:HM} {z h:HC} {cs rs l:bo} {M:Mo} {P:d8} {hd:Int} {α:Type} {A w:d7} {Q:aB} {S:CS} {fl gl:cO} {N:Nat->Nd} {o:Oper} {L:Hm} {a:Act} {ops:bM} {md:Region.Mode} {row:Option Nat} {f:FC} {fr:List Vw}
def nA {x:HQ} (h:GH x L B) {N:Nat->Nd} (k:Ui N L) (z d:Nat) (y a c:d0) (sq pk:Int) (tks:List Tk) (i:Nat) (hi:tks.length<=8) (b:tks[i]?=some .e):Df prog 91 [BM z,aa (i:Int)] Tr (OZ z (BM x.bh) d y a c sq pk::AG y 102 Tk.enc tks::x.H) (λ_:Unit=>.bool<|bE L) Tr (λ_=>OZ z (BM x.bh) d y a c sq pk::AG y 102 Tk.enc tks::x.H):=by
 intro w j f;have g:=(qp.1 b).1;obtain⟨h,rfl⟩:=h;refine Ey func91 I f<|Y I<|Ak I<|Ad<|Y I<|C 2 I<|EJ Cz I Tc I<|Lo VE 0 I<|r I<|U I Zt<|U I (AO i 0 I JV I I RF b I)<|G<|Af<|Y I<|U rfl Zb (C 2 I<|G<|Ab I<|Y I<|U rfl (CJ rfl TJ uQ rfl K zeroValue108) (C 2 I<|G ?_));refine Ab I<|Ah<|Au<|Kt<|Y I<|C 2 I<|EJ Cz I Wi I<|Lo Vs 0 I<|Lc I<|EJ Pz I SS I<|Lo TW 2 I<|Z I<|Ee [_,_] (XcQ h) I call99 Tt<|λv _=>Pre.world (St _ _<|_::_::_::HQ.H x) Ih<|U I Zy<|U I vd<|r I ?_
 by_cases hl:0<x.q.M.line.length
 .refine Yf 55 I dN (C 2 I<|EJ Cz I Wi I<|Lo Vs 0 I<|Z I<|Ee [_,_,_] (nz h) I call149 Tt<|λ_ _=>Pre.world (St _ _<|_::_::_::HQ.H x) Ih ?_);exact C 2 I<|Ak I<|s<|Pm [2] I<|Ae<|Av I I<|λ_ h=>⟨(),congrArg Eb (by unfold bE;rw[sT<|show 0<x.hm.M.line.length from hl,tO];first|rfl|(rw[te];show _↔x.q.M.free=0;omega)),T0,h⟩
 exact Sf 55 I dN<|C 7 I<|Ak I<|s<|Pm [2] I<|Ae<|Av I I<|λ_ h=>⟨(),congrArg Eb (by unfold bE;rw[sS<|show ¬0<x.hm.M.line.length from hl];rfl),T0,h⟩
def NN (k:O9 h m B) {N:Nat->Nd} (g:Ui N m.L) {i:Nat} (hi:i<m.T.n):Df prog 91 [BM h.bH,aa (i:Int)] Tr (h.H m) (λ_:Unit=>.bool<|FV N m i) Tr (λ_=>h.H m):=by
 obtain⟨a,d⟩:∃a,h.tks[i]?=some a:=⟨_,pE<|by rw[k.fV];exact hi⟩
 have e:h.tks.length<=8:=by rw[k.fV,k.tn];exact k.n8
 rcases k.tk d with⟨c,F,rfl⟩|⟨b,M,q,rfl⟩|⟨K,rfl⟩
 .have hm:FV N m i=fT (i:Int) m.L c.m:=by unfold FV;rw[k.at F]
  rw[hm]
  have y:(h.H m).Perm ((OZ h.bH (BM h.x.bh) h.bt h.vT h.vO h.vE m.sq m.pk::AG h.vT 102 Tk.enc h.tks::(c.H (i:Int)++h.x.H))++(AG h.vE 71 O1.enc m.ev::Ac h.bt 171 (Sc.o4 m.T)::(WW 0 i h.cc++Qa h.cc.length h.fl))):=by
   have l:=QF (k:=0) F;rw[qK] at l;exact (QH _ _ _ _ _).trans<|((((l.append_right<|Qa h.cc.length h.fl++h.x.H).cons _).cons _).cons _).cons _ |>.trans (QG _ _ _ _ (c.H (i:Int)) (WW 0 i h.cc) (Qa h.cc.length h.fl) h.x.H)
  obtain⟨b,p,t,z,⟨ops,o,ph⟩⟩:=c
  have go:∀(v:Bool),Df prog 91 [BM h.bH,aa (i:Int)] Tr (OZ h.bH (BM h.x.bh) h.bt h.vT h.vO h.vE m.sq m.pk::AG h.vT 102 Tk.enc h.tks::((⟨b,p,t,z,⟨ops,o,ph⟩⟩:CC).H (i:Int)++h.x.H)) (λ_:Unit=>.bool v) Tr (λ_=>OZ h.bH (BM h.x.bh) h.bt h.vT h.vO h.vE m.sq m.pk::AG h.vT 102 Tk.enc h.tks::((⟨b,p,t,z,⟨ops,o,ph⟩⟩:CC).H (i:Int)++h.x.H))->Df prog 91 [BM h.bH,aa (i:Int)] Tr (h.H m) (λ_:Unit=>.bool v) Tr (λ_=>h.H m):=λv s =>
   Df.pack _ s y oY id lu
  refine go _ ?_;cases ph with
  |idle=>exact nu k.lh g h.bH h.bt h.vT h.vO h.vE m.sq m.pk h.tks i e b o p ops [] d
  |rd a=>exact nw k.lh g h.bH h.bt h.vT h.vO h.vE m.sq m.pk h.tks i e b t o p ops _ d
  |wr a=>exact Xll k.lh g h.bH h.bt h.vT h.vO h.vE m.sq m.pk h.tks i e b t o p ops _ d
 .have E:m.cs[i]?=none:=pH A1
  have hm:FV N m i=bD N (i:Int) m.L b.m:=by
   unfold FV;rw[E];simp only;rw[k.yV q]
  rw[hm];have l:=Ut (k:=h.cc.length) q;have D:(h.cc.length+(i-m.cs.length):Nat)=i:=by rw[k.len];omega
  rw[D] at l
  have y:(h.H m).Perm ((OZ h.bH (BM h.x.bh) h.bt h.vT h.vO h.vE m.sq m.pk::AG h.vT 102 Tk.enc h.tks::(b.H (i:Int)++h.x.H))++(AG h.vE 71 O1.enc m.ev::Ac h.bt 171 (Sc.o4 m.T)::(Y3 h.cc.length (i-m.cs.length) h.fl++RD 0 h.cc))):=by
   refine (QH _ _ _ _ _).trans ?_
   have G:(RD 0 h.cc++(Qa h.cc.length h.fl++h.x.H)).Perm ((b.H (i:Int)++Y3 h.cc.length (i-m.cs.length) h.fl)++(RD 0 h.cc++h.x.H)) :=
    (tS _ _ _).trans<|l.append_right _
   exact (((G.cons _).cons _).cons _).cons _ |>.trans (QG _ _ _ _ _ _ _ _)
  obtain⟨A,z,f⟩:=b;obtain⟨a0,w0,w,J,u,C⟩:=f;cases J with
  |none=>exact Df.pack _ (XcX k.lh g h.bH h.bt h.vT h.vO h.vE m.sq m.pk h.tks i e A (i:Int) a0 w0 w av u C [] d) y oY id lu
  |some r =>
   have j:(h.H m).Perm ((OZ h.bH (BM h.x.bh) h.bt h.vT h.vO h.vE m.sq m.pk::AG h.vT 102 Tk.enc h.tks::TF A (i:Int) a0 w0 w (BM z) u C::([O5 z (i:Int) r]++h.x.H))++(AG h.vE 71 O1.enc m.ev::Ac h.bt 171 (Sc.o4 m.T)::(Y3 h.cc.length (i-m.cs.length) h.fl++RD 0 h.cc))) :=
    y.trans<|(((List.Perm.swap _ _ _).cons _).cons _).append_right _
   exact Df.pack _ (XcX k.lh g h.bH h.bt h.vT h.vO h.vE m.sq m.pk h.tks i e A (i:Int) a0 w0 w (BM z) u C [O5 z (i:Int) r] d) j oY id<|λ_ _=>⟨rfl,T0,[],by rw[sG];exact j.symm⟩
 have hm:FV N m i=bE m.L:=by
  unfold FV;rw[pH A1];simp only;rw[pH A1]
 rw[hm];have y:(h.H m).Perm ((OZ h.bH (BM h.x.bh) h.bt h.vT h.vO h.vE m.sq m.pk::AG h.vT 102 Tk.enc h.tks::h.x.H)++(AG h.vE 71 O1.enc m.ev::Ac h.bt 171 (Sc.o4 m.T)::(RD 0 h.cc++Qa h.cc.length h.fl))):=Xkm _ _ _ _ _ _ _;exact Df.pack _ (nA k.lh g h.bH h.bt h.vT h.vO h.vE m.sq m.pk h.tks i e d) y oY id lu
def NO (k:O9 h m B) {i:Nat} {c:CC} (l:h.cc[i]?=some c):Df prog 37 [BM c.b] Tr (h.H m) (λ_:Unit=>.bool c.m.ended) Tr (λ_=>h.H m):=by
 have g:=QF (k:=0) l;rw[qK] at g;have j:(RD 0 h.cc++(Qa h.cc.length h.fl++h.x.H)).Perm ((c.H (i:Int)++WW 0 i h.cc)++(Qa h.cc.length h.fl++h.x.H)):=g.append_right _;obtain⟨b,y,d,e,⟨ops,z,ph⟩⟩:=c
 have f:(h.H m).Perm (([Oh b y z (⟨b,y,d,e,⟨ops,z,ph⟩⟩:CC).ptrs,AG y 43 Opn.enc ops]:ci)++(((⟨b,y,d,e,⟨ops,z,ph⟩⟩:CC).more (i:Int)++WW 0 i h.cc)++(Qa h.cc.length h.fl++h.x.H)++[OZ h.bH (BM h.x.bh) h.bt h.vT h.vO h.vE m.sq m.pk,AG h.vE 71 O1.enc m.ev,AG h.vT 102 Tk.enc h.tks,Ac h.bt 171<|Sc.o4 m.T])):=by
  refine ((((j.cons _).cons _).cons _).cons _).trans ?_;have n:=sV (l₁:=[OZ h.bH (BM h.x.bh) h.bt h.vT h.vO h.vE m.sq m.pk,AG h.vE 71 O1.enc m.ev,AG h.vT 102 Tk.enc h.tks,Ac h.bt 171<|Sc.o4 m.T]) (l₂:=(((⟨b,y,d,e,⟨ops,z,ph⟩⟩:CC).H (i:Int)++WW 0 i h.cc)++(Qa h.cc.length h.fl++h.x.H)));exact n
 have go:∀(v:Bool),Df prog 37 [BM b] Tr ([Oh b y z (⟨b,y,d,e,⟨ops,z,ph⟩⟩:CC).ptrs,AG y 43 Opn.enc ops]:ci) (λ_:Unit=>.bool v) Tr (λ_=>[Oh b y z (⟨b,y,d,e,⟨ops,z,ph⟩⟩:CC).ptrs,AG y 43 Opn.enc ops])->Df prog 37 [BM b] Tr (h.H m) (λ_:Unit=>.bool v) Tr (λ_=>h.H m):=λv s =>
  Df.pack _ s f oY id<|λ_ _=>⟨rfl,T0,[],by rw[sG];exact f.symm⟩
 refine go _ ?_;cases ph with
 |idle=>exact SM b 0 z y ops
 |rd a=>exact XiY b d z y ops
 |wr a=>exact XiZ b d z y ops
abbrev HM.Sr (m:HM) (T:Sc.Tab):HM:={m with T:=T}
def O9.Sr (k:O9 z m B) {T:Sc.Tab} (h:T.n=m.T.n) (x:T.Ok ((B*10:Nat):Int)):O9 z (m.Sr T) B:=⟨k.lh,k.cs,k.fs,by show T.n=_;rw[h];exact k.tn,x,k.n8,k.ol,k.ng,k.ev,k.sq,k.pk⟩
def O9.oV (k:O9 z m B) (N:Nat->Nd) (j:Nat):O9 z (m.Sr<|oV N m j m.T) B:=k.Sr (HU N m j m.T)<|SP N m j k.tok
def VS (k:O9 z m B) (N:Nat->Nd) (p:Ui N m.L):Df prog 42 [BM z.bH] Tr (z.H m) (λ_:Unit=>.tuple #[]) Tr (λ_=>z.H<|m.Sr<|oV N m m.T.n m.T):=by
 intro w A s;have t:=k.fV;have v:m.T.n<=8:=xY;refine Ey func42 I s<|ZGk ?_;refine Bm (λ(i:Nat)=>[(0,BM z.bH),(9,z.vT),(10,aa (z.tks.length:Int)),(11,aa (i:Int))]) (λ(i:Nat)=>St w (dom<|z.H m)<|z.H<|m.Sr<|oV N m i m.T) (λ(i:Nat)=>i<=z.tks.length) (λ(i:Nat)=>z.tks.length-i) (0) (qc _) (Si I) Ih<|λi hi=>Y I<|yR ?_
 refine CB 12 I (λq=>?_)<|λq=>?_
 .obtain⟨a,l⟩:=gE z.tks i;have d:=k.oV N i;have f:i<(m.Sr<|oV N m i m.T).T.n:=by rw[show (m.Sr<|oV N m i m.T).T.n=m.T.n from HU N m i m.T];omega
  rcases k.tk l with⟨c,r,rfl⟩|⟨b,D,u,rfl⟩|⟨C,rfl⟩
  .have j:=k.at r;refine Am I<|Ah<|Ks<|Af<|Y I<|Lm I<|U I Zu<|U I (AO i 0 I JV I I ue l I)<|Nh I<|Ak I<|Y I<|Lm I<|U rfl wQ (Mv 4 I<|Ak I<|Af<|Y I<|Mv 2 I<|Z I<|Ee [] (NN d p f) I call91 Tt<|λ_ _=>Pw (St _ _<|HC.H z<|m.Sr<|oV N m i m.T)<|Ak I<|Pre.PY 27 I (λy=>?_)<|λy=>?_)
   .exact wT
   refine Ab I (Y I<|Mv 3 I<|Z I<|Ee [] (NO d r) I call37 Tt<|λ_ _=>Pw (St _ _<|HC.H z<|m.Sr<|oV N m i m.T)<|U I (Qy I)<|Ak I<|Pre.PY 37 I (λg=>?_)<|λg=>?_)
   .refine Am I (Cr I<|Mv 2 I<|EJ Cz I Xf I<|Lo Yd 0 I<|Lm I<|Pm [3] I<|Z I<|Bp (Sc.XiT d.tok z.bt (i:Int)) I I I call93 I Tt<|λ_ _=>AE<|Zc ?_);have x:Ue N m i=2:=by unfold Ue;rw[pQ cZ,j];simp only;rw[pN g]
    exact uY
   refine Ab I (Cr I<|Mv 2 I<|EJ Cz I Xf I<|Lo Yd 0 I<|Lm I<|Pm [3] I<|Z I<|Bp (Sc.ZA d.tok z.bt (i:Int)) I I I call94 I Tt<|λ_ _=>AE<|Zc ?_);have x:Ue N m i=1:=by unfold Ue;rw[pQ cZ,j];simp only;rw[pQ<|by rw[g];decide]
   exact uY
  .have e:m.cs[i]?=none:=pH J;refine Am I<|Ah<|Ks<|Af<|Y I<|Lm I<|U I Zu<|U I (AO i 0 I JV I I ue l I)<|Nh I<|Ak I<|Y I<|Lm I<|U rfl Zb (Mv 4 I<|Ak I<|Af<|Y I<|Mv 2 I<|Z I<|Ee [] (NN d p f) I call91 Tt<|λ_ _=>Pw (St _ _<|HC.H z<|m.Sr<|oV N m i m.T)<|Ak I<|Pre.PY 27 I (λy=>?_)<|λy=>?_)
   .exact wT
   refine Ab I (Y I<|Mv 5 I<|Ak I<|Ab I<|Cr I<|Mv 2 I<|EJ Cz I Xf I<|Lo Yd 0 I<|Lm I<|Pm [3] I<|Z I<|Bp (Sc.ZA d.tok z.bt (i:Int)) I I I call94 I Tt<|λ_ _=>AE<|Zc ?_);have x:Ue N m i=1:=by unfold Ue;rw[pQ cZ,e]
   exact uY
  have e:m.cs[i]?=none:=pH J;refine Am I<|Ah<|Ks<|Af<|Y I<|Lm I<|U I Zu<|U I (AO i 0 I JV I I ue l I)<|Nh I<|Ak I<|Y I<|Lm I<|U rfl Zb (Mv 4 I<|Ak I<|Af<|Y I<|Mv 2 I<|Z I<|Ee [] (NN d p f) I call91 Tt<|λ_ _=>Pw (St _ _<|HC.H z<|m.Sr<|oV N m i m.T)<|Ak I<|Pre.PY 27 I (λy=>?_)<|λy=>?_)
  .exact wT
  refine Ab I (Y I<|Mv 5 I<|Ak I<|Ab I<|Cr I<|Mv 2 I<|EJ Cz I Xf I<|Lo Yd 0 I<|Lm I<|Pm [3] I<|Z I<|Bp (Sc.ZA d.tok z.bt (i:Int)) I I I call94 I Tt<|λ_ _=>AE<|Zc ?_);have x:Ue N m i=1:=by unfold Ue;rw[pQ cZ,e]
  exact uY
 have o:i=m.T.n:=by omega
 exact Ab I<|AP<|Aa<|Aa<|Ar<|AW<|Bl I<|λ_ h=>⟨(),rfl,T0,by rw[o] at h;exact h⟩
def HM.client (N:Nat->Nd) (m:HM) (t:Nat):HM:=match m.cs[t]? with
 |some c=>{m with L:=(Ch N (t:Int) m.sq m.L c).1,cs:=m.cs.set t (Ch N (t:Int) m.sq m.L c).2.1,sq:=Ox (Ch N (t:Int) m.sq m.L c).2.2.1 m.sq,ev:=m.ev++(Ch N (t:Int) m.sq m.L c).2.2.2}
 |none=>m
def Xgx (N:Nat->Nd) (t sq:Int) (L:Hm) (c:Cl):(Ch N t sq L c).2.1.ops=c.ops:=by
 unfold Ch;split<;>(try split)<;>rfl
def Xie (N:Nat->Nd) (t sq:Int) (L:Hm) (c:Cl):(Ch N t sq L c).2.2.2.length<=2:=by
 unfold Ch;split<;>(try split)<;>simp
def Xif {t sq:Int} {c:Cl} (y:Uo N t sq L c) (z:c.ph.Xx=false->c.nx<c.ops.length):(Ch N t sq L c).2.1.nx<=c.ops.length/\((Ch N t sq L c).2.1.ph.Xx=false->(Ch N t sq L c).2.1.nx<c.ops.length):=by
 have x:c.nx<c.ops.length:=by
  cases hc:c.ph with
  |idle=>unfold Uo at y;rw[hc] at y;exact y.1
  |rd r=>exact z (by rw[hc];rfl)
  |wr v=>exact z<|by rw[hc];rfl
 unfold Ch;split<;>split<;>first|exact dw|exact⟨x,λh=>wU⟩
def O9.client (k:O9 z m B) (s:B+1<=60000) (j:m.ev.length+1<=B) {t:Nat} {c:CC} (o:z.cc[t]?=some c) (a:Uo N (t:Int) m.sq m.L c.m) {v:d0} {c':CC} {y:HQ} (q:c'.b=c.b) (l:c'.m=(Ch N (t:Int) m.sq m.L c.m).2.1) (p:GH y (Ch N (t:Int) m.sq m.L c.m).1<|B+1):O9 {z with vE:=v,cc:=z.cc.set t c',x:=y} (m.client N t) (B+1):=by
 have h:=k.at o;have hm:m.client N t={m with L:=(Ch N (t:Int) m.sq m.L c.m).1,cs:=m.cs.set t (Ch N (t:Int) m.sq m.L c.m).2.1,sq:=Ox (Ch N (t:Int) m.sq m.L c.m).2.2.1 m.sq,ev:=m.ev++(Ch N (t:Int) m.sq m.L c.m).2.2.2}:=by unfold HM.client;rw[h]
 rw[hm];have g:=k.ol c.m<|ry h;refine⟨p,?_,k.fs,?_,k.tok.mono J,?_,?_,λf i=>⟨qM (k.ng f i).1<|tC B,qM (k.ng f i).2<|tC B⟩,?_,?_,qM k.pk<|tC B⟩
 .show (z.cc.set t c').map CC.m=_
  rw[rH,l,k.cs]
 .show m.T.n=(m.cs.set t _).length+(m.fs.length+1)
  rw[sI];exact k.tn
 .show (m.cs.set t _).length+(m.fs.length+1)<=8
  rw[sI];exact k.n8
 .intro d hd;rcases tF hd with e|e
  .exact k.ol d e
  subst e;rw[Xgx];have:=Xif a g.2.2;exact⟨g.1,this.1,this.2⟩
 .show (m.ev++_).length<=_
  rw[pK];have:=Xie N (t:Int) m.sq m.L c.m;have:=k.ev;omega
 show 1<=Ox _ m.sq/\Ox _ m.sq<=((B+1:Nat):Int)+1
 have r:=k.sq;unfold Ox;split
 .rw[XiE J J];omega
 omega
def nB {l:List CC} {c c':CC} (h:l[i]?=some c) (x:c'.b=c.b):(l.set i c').map (λc=>Tk.c c.b)=l.map (λc=>Tk.c c.b):=by
 exact vY
def Xe4 (N:Nat->Nd) (k:O9 z m B) (w:B+1<=60000) (j:m.ev.length+1<=B) {t:Nat} {c:CC} (i:z.cc[t]?=some c) (d:c.m.ph.Xx=false->m.L.may (t:Int)=true) (h:Uo N (t:Int) m.sq m.L c.m):Df prog 39 [BM z.bH,aa (t:Int),BM c.b] Tr (z.H m) (λ_:HC=>.tuple #[])
 (λf=>f.bH=z.bH/\f.bt=z.bt/\O9 f (m.client N t) (B+1)) (λf=>f.H<|m.client N t):=by
 have g:=k.at i;have y:=k.ol c.m<|ry g;have q:=(qp.1 i).1
 have p:OJ (t:Int)=true:=by
  have:=k.n8;have:=k.len;unfold OJ;rw[sT (show (0:Int)<=(t:Int) by omega),sT<|show (t:Int)<8 by omega];rfl
 have hm:m.client N t={m with L:=(Ch N (t:Int) m.sq m.L c.m).1,cs:=m.cs.set t (Ch N (t:Int) m.sq m.L c.m).2.1,sq:=Ox (Ch N (t:Int) m.sq m.L c.m).2.2.1 m.sq,ev:=m.ev++(Ch N (t:Int) m.sq m.L c.m).2.2.2}:=by unfold HM.client;rw[g]
 have l:(Lit.int .u64 m.sq).wf=true:=by
  have:=k.sq;simp only[Lit.wf,qW,rA];exact⟨bW,by show _<=(2^64-1:Int);omega⟩
 have s:=Xe3 N k.lh.ok w p z.bH z.bt z.vT z.vO z.vE m.sq m.pk m.ev (by have:=k.ev;omega) l c y.1 (qM y.2.1 y.1) (by rw[k.lh.hm];exact d) uz;rw[k.lh.hm] at s;have v:=QF (k:=0) i;rw[qK] at v
 have A:(z.H m).Perm ((OZ z.bH (BM z.x.bh) z.bt z.vT z.vO z.vE m.sq m.pk::AG z.vE 71 O1.enc m.ev::(c.H (t:Int)++z.x.H))++(AG z.vT 102 Tk.enc z.tks::Ac z.bt 171 (Sc.o4 m.T)::(WW 0 t z.cc++Qa z.cc.length z.fl))):=by
  exact ((((v.append_right<|Qa z.cc.length z.fl++z.x.H).cons _).cons _).cons _).cons _ |>.trans (QG _ _ _ _ (c.H (t:Int)) (WW 0 t z.cc) (Qa z.cc.length z.fl) z.x.H)
 refine Df.pack _ s A oY (λr=>{z with vE:=r.1,cc:=z.cc.set t r.2.1,x:=r.2.2})<|λr a=>⟨rfl,⟨rfl,rfl,k.client w j i h a.1 a.2.1 ⟨a.2.2.2.1,a.2.2.2.2⟩⟩,[],?_⟩
 rw[sG,hm];have u:=XcV (k:=0) r.2.1 q;rw[qK] at u;have C:BM r.2.2.bh=BM z.x.bh:=by rw[a.2.2.1]
 have n:({z with vE:=r.1,cc:=z.cc.set t r.2.1,x:=r.2.2}:HC).tks=z.tks:=by
  unfold HC.tks;show (z.cc.set t r.2.1).map _++_=_
  rw[nB i a.1]
 have o:(z.cc.set t r.2.1).length=z.cc.length:=sI ..
 have e:({z with vE:=r.1,cc:=z.cc.set t r.2.1,x:=r.2.2}:HC).H {m with L:=(Ch N (t:Int) m.sq m.L c.m).1,cs:=m.cs.set t (Ch N (t:Int) m.sq m.L c.m).2.1,sq:=Ox (Ch N (t:Int) m.sq m.L c.m).2.2.1 m.sq,ev:=m.ev++(Ch N (t:Int) m.sq m.L c.m).2.2.2}=OZ z.bH (BM z.x.bh) z.bt z.vT z.vO r.1 (Ox (Ch N (t:Int) m.sq m.L c.m).2.2.1 m.sq) m.pk::AG r.1 71 O1.enc (m.ev++(Ch N (t:Int) m.sq m.L c.m).2.2.2)::AG z.vT 102 Tk.enc z.tks::Ac z.bt 171 (Sc.o4 m.T)::(RD 0 (z.cc.set t r.2.1)++(Qa z.cc.length z.fl++r.2.2.H)):=by
  show OZ z.bH (BM r.2.2.bh) z.bt z.vT z.vO r.1 _ _::AG r.1 71 O1.enc _::AG z.vT 102 Tk.enc ({z with vE:=r.1,cc:=z.cc.set t r.2.1,x:=r.2.2}:HC).tks::_::(RD 0 (z.cc.set t r.2.1)++(Qa (z.cc.set t r.2.1).length z.fl++r.2.2.H))=_
  rw[C,n,o]
 rw[e];refine List.Perm.trans ?_<|((((u.append_right<|Qa z.cc.length z.fl++r.2.2.H).cons _).cons _).cons _).cons _;exact (QG _ _ _ _ (r.2.1.H (t:Int)) (WW 0 t z.cc) (Qa z.cc.length z.fl) r.2.2.H).symm
def O9.mono {C:Nat} (k:O9 z m B) (h:B<=C) (y:C<=60000):O9 z m C:=⟨k.lh.mono h y,k.cs,k.fs,k.tn,k.tok.mono J,k.n8,k.ol,λf x=>⟨qM (k.ng f x).1 h,qM (k.ng f x).2 h⟩,qM k.ev h,⟨k.sq.1,by have:=k.sq.2;omega⟩,qM k.pk h⟩
def O9.pick (k:O9 z m B) (x:B+2<=60000) (p:Int):O9 z {m with T:=Sc.oW m.T p,pk:=m.pk+1} (B+1) :=
 ⟨k.lh.mono (tC B) J,k.cs,k.fs,by show (Sc.oW m.T p).n=_;rw[Sc.zV];exact k.tn,(Sc.XlD k.tok p).mono J,k.n8,k.ol,λf h=>⟨qM (k.ng f h).1<|tC B,qM (k.ng f h).2<|tC B⟩,qM k.ev<|tC B,⟨k.sq.1,by have y:=k.sq.2;show m.sq<=((B+1:Nat):Int)+1;omega⟩,Nat.succ_le_succ k.pk⟩
def O9.get (k:O9 z m B) {i:Nat} {cl:Cl} (h:m.cs[i]?=some cl):∃c,z.cc[i]?=some c/\c.m=cl:=by
 rw[<-k.cs,qq] at h;cases hx:z.cc[i]? with
 |none=>rw[hx] at h;cases h
 |some c=>rw[hx] at h;exact⟨c,rfl,by cases h;rfl⟩
def HM.flush (N:Nat->Nd) (m:HM) (i:Nat):HM:=match m.fs[i]? with
 |some f=>{m with L:=(Pg N m.L ((m.cs.length+i:Nat):Int) f).1,fs:=m.fs.set i (Pg N m.L ((m.cs.length+i:Nat):Int) f).2}
 |none=>m
def Xk5 (N:Nat->Nd) (L:Hm) (t:Int) (f:Fl):(Pg N L t f).2.n<=f.n+1/\(Pg N L t f).2.g<=f.g+1:=by
 have h:∀(f:Fl) (b:Bool),(f.over b).n<=f.n+1/\(f.over b).g<=f.g+1:=λf b=>⟨qb _,by unfold Fl.over;dsimp only;split<;>omega⟩
 unfold Pg;split
 .rw[Fl.zX];exact⟨tC _,tC _⟩
 split
 .exact⟨tC _,tC _⟩
 split
 .exact⟨tC _,tC _⟩
 split
 .unfold Gf;split
  .exact⟨tC _,tC _⟩
  exact h _ _
 split
 .split
  .exact h _ _
  exact⟨tC _,tC _⟩
 exact⟨tC _,tC _⟩
def O9.flush (k:O9 z m B) (l:B+1<=60000) {i:Nat} {f:FM} (b:z.fl[i]?=some f) {f':FM} {y:HQ} (c:f'.m=(Pg N m.L ((m.cs.length+i:Nat):Int) f.m).2) (a:GH y (Pg N m.L ((m.cs.length+i:Nat):Int) f.m).1<|B+1):O9 {z with fl:=z.fl.set i f',x:=y} (m.flush N i) (B+1):=by
 have h:=k.yV b;have hm:m.flush N i={m with L:=(Pg N m.L ((m.cs.length+i:Nat):Int) f.m).1,fs:=m.fs.set i (Pg N m.L ((m.cs.length+i:Nat):Int) f.m).2}:=by unfold HM.flush;rw[h]
 rw[hm];refine⟨a,k.cs,?_,?_,k.tok.mono J,?_,k.ol,?_,qM k.ev<|tC B,⟨k.sq.1,by have d:=k.sq.2;show m.sq<=((B+1:Nat):Int)+1;omega⟩,qM k.pk<|tC B⟩
 .show (z.fl.set i f').map FM.m=_
  rw[rH,c,k.fs]
 .show m.T.n=m.cs.length+((m.fs.set i _).length+1)
  rw[sI];exact k.tn
 .show m.cs.length+((m.fs.set i _).length+1)<=8
  rw[sI];exact k.n8
 intro g j;rcases tF j with e|e
 .exact⟨qM (k.ng g e).1<|tC B,qM (k.ng g e).2<|tC B⟩
 subst e;have d:=Xk5 N m.L ((m.cs.length+i:Nat):Int) f.m;have o:=k.ng f.m<|ry h;omega
def XcI (a b c d:Nr) (C G F X:ci):(a::b::c::d::(C++((G++F)++X))).Perm ((G++X)++(a::b::c::d::(F++C))):=by
 have h:(C++((G++F)++X)).Perm ((G++X)++(F++C)):=by
  rw[qQ,qQ];refine (tS _ _ _).trans<|List.Perm.append_left _<|(List.Perm.append_left _ sV).trans ?_;exact (tS _ _ _).trans<|List.Perm.append_left _<|sV
 exact (h.append_left [a,b,c,d]).trans<|tS [a,b,c,d] (G++X)<|F++C
def lD {l:List FM} {c c':FM} (h:l[i]?=some c) (x:c'.b=c.b):(l.set i c').map (λf=>Tk.f f.b)=l.map (λf=>Tk.f f.b):=by
 exact vY
def XfE (N:Nat->Nd) (k:O9 z m B) (q:B+1<=60000) {i:Nat} {f:FM} (c:z.fl[i]?=some f) (h:m.L.may ((m.cs.length+i:Nat):Int)) (t:bI N m.L ((m.cs.length+i:Nat):Int) f.m):Df prog 40 [BM f.b,BM z.x.bh] Tr (z.H m) (λ_:HC=>.bool<|decide ((Pg N m.L ((m.cs.length+i:Nat):Int) f.m).2.a=1)&&!(Pg N m.L ((m.cs.length+i:Nat):Int) f.m).2.w)
 (λy=>y.bH=z.bH/\y.bt=z.bt/\O9 y (m.flush N i) (B+1)) (λy=>y.H<|m.flush N i):=by
 have d:=k.yV c;have o:=(qp.1 c).1
 have n:OJ ((m.cs.length+i:Nat):Int)=true:=by
  have:=k.n8;have:=k.nf;unfold OJ;rw[sT (show (0:Int)<=((m.cs.length+i:Nat):Int) by omega),sT<|show ((m.cs.length+i:Nat):Int)<8 by omega];rfl
 have hm:m.flush N i={m with L:=(Pg N m.L ((m.cs.length+i:Nat):Int) f.m).1,fs:=m.fs.set i (Pg N m.L ((m.cs.length+i:Nat):Int) f.m).2}:=by unfold HM.flush;rw[d]
 have s:=fo k.lh.ok n q uz f.b f.br N f.m<|by rw[k.lh.hm];exact t
 rw[k.lh.hm] at s;have g:=Ut (k:=z.cc.length) c;rw[k.len] at g
 have u:(z.H m).Perm ((f.H ((m.cs.length+i:Nat):Int)++z.x.H)++(OZ z.bH (BM z.x.bh) z.bt z.vT z.vO z.vE m.sq m.pk::AG z.vE 71 O1.enc m.ev::AG z.vT 102 Tk.enc z.tks::Ac z.bt 171 (Sc.o4 m.T)::(Y3 m.cs.length i z.fl++RD 0 z.cc))):=by
  rw[<-k.len] at g ⊢;exact ((((((g.append_right z.x.H).append_left<|RD 0 z.cc).cons _).cons _).cons _).cons _).trans<|XcI _ _ _ _ _ _ _ _
 refine Df.pack _ s u oY (λr=>{z with fl:=z.fl.set i ⟨f.b,r.1,(Pg N m.L ((m.cs.length+i:Nat):Int) f.m).2⟩,x:=r.2})<|λr l=>⟨rfl,⟨rfl,rfl,k.flush q c I ⟨l.2.1,l.2.2⟩⟩,[],?_⟩
 rw[sG,hm];have p:=XcW (k:=z.cc.length) (⟨f.b,r.1,(Pg N m.L ((m.cs.length+i:Nat):Int) f.m).2⟩:FM) o;rw[k.len] at p;have v:BM r.2.bh=BM z.x.bh:=by rw[l.1]
 have j:({z with fl:=z.fl.set i ⟨f.b,r.1,(Pg N m.L ((m.cs.length+i:Nat):Int) f.m).2⟩,x:=r.2}:HC).tks=z.tks:=by
  unfold HC.tks;show _++((z.fl.set i _).map _++_)=_
  rw[lD c (c':=⟨f.b,r.1,(Pg N m.L ((m.cs.length+i:Nat):Int) f.m).2⟩) rfl]
 have e:({z with fl:=z.fl.set i ⟨f.b,r.1,(Pg N m.L ((m.cs.length+i:Nat):Int) f.m).2⟩,x:=r.2}:HC).H {m with L:=(Pg N m.L ((m.cs.length+i:Nat):Int) f.m).1,fs:=m.fs.set i (Pg N m.L ((m.cs.length+i:Nat):Int) f.m).2}=OZ z.bH (BM z.x.bh) z.bt z.vT z.vO z.vE m.sq m.pk::AG z.vE 71 O1.enc m.ev::AG z.vT 102 Tk.enc z.tks::Ac z.bt 171 (Sc.o4 m.T)::(RD 0 z.cc++(Qa m.cs.length (z.fl.set i ⟨f.b,r.1,(Pg N m.L ((m.cs.length+i:Nat):Int) f.m).2⟩)++r.2.H)):=by
  show OZ z.bH (BM r.2.bh) z.bt z.vT z.vO z.vE _ _::AG z.vE 71 O1.enc _::AG z.vT 102 Tk.enc ({z with fl:=z.fl.set i ⟨f.b,r.1,(Pg N m.L ((m.cs.length+i:Nat):Int) f.m).2⟩,x:=r.2}:HC).tks::_::(RD 0 z.cc++(Qa z.cc.length _++r.2.H))=_
  rw[v,j,k.len]
 rw[e];exact (XcI _ _ _ _ _ _ _ _).symm.trans<|((((p.append_right r.2.H).append_left<|RD 0 z.cc).cons _).cons _).cons _ |>.cons _
open Go.RowKit Go.Shelf
attribute [local go_sem] Oper.semAt_some
def FX {α:Type} (f:Nat->α) (k:Nat):List α:=(List.range k).map f
def Pa (f:Nat->α) (k:Nat):FX f (k+1)=FX f k++[f k]:=by simp[FX,tp]
def SR (f:Nat->α) (k:Nat):(FX f k).length=k:=by simp[FX]
def spot (n h:Nat) (hn:0<n) (j:Nat):Fin n:=⟨(h+j)%n,qf _ hn⟩
def WY (Bn Bh:Nat) (A B:d7):Prop:=B.heap[Bn]?=A.heap[Bn]?/\B.heap[Bh]?=A.heap[Bh]?
def WY.refl (x h:Nat) (A:d7):WY x h A A:=⟨rfl,rfl⟩
def WY.trans {y x:Nat} {B C:d7} (h:WY y x A B) (z:WY y x B C):WY y x A C:=⟨z.1.trans h.1,z.2.trans h.2⟩
set_option maxRecDepth 100000 in
set_option maxHeartbeats 2000000 in
def Xgy (F:Fence) (m:Nat) (D:F.fn 271) (o:F.round=none) (hm:1<=m) (l g b n h:Nat) (N:n<=65536) (d:0<n) (O:h<n) (J u:List (Fin n)->aU)
 (B:∀pre x W,J pre W->pre.length<2*n->YieldAt F (m-1) prog l #[aa ((x.val:Nat):Int)] W λe z =>
  (e=.returned (.bool true)/\J (pre++[x]) z/\WY g b W z)\/(e=.returned (.bool false)/\u (pre++[x]) z))
 (W:d7) (s:W.cell? ⟨g,0,none⟩=some (aa (n:Int))) (r:W.cell? ⟨b,0,none⟩=some (aa (h:Int))) (w:J [] W) :
 CallsIn F m prog 271 #[.func (.yield l) #[] #[],pV g,pV b] W λe z=>(∃v,e=.returned v) /\
  ((∃ys,ys=FX (spot n h d) (2*n)/\J ys z)\/(∃pre,(∃k,k<=2*n/\pre=FX (spot n h d) k)/\u pre z)):=by
 refine callsIn_of_wp Tryz.func271 rfl D ?_ o;simp only[Tryz.ntmps271,List.size_toArray,pz,sR,Nat.reduceAdd,Nat.reduceSub,Array.replicate_succ,Array.replicate_zero,List.push_toArray,List.append_toArray,qU,pt];have L:IntKind.i64.wrap (2*(n:Int))=((2*n:Nat):Int):=by rw[IntKind.wrap_i64];omega
 gi_wp2
 gi_loopw [7] (λi wr=>∃k:Nat,k<=2*n/\i=aa k/\J (FX (spot n h d) k) wr/\WY g b W wr)
  (λi _=>2*n-(intOf i).toNat)
 case atStart=>exact⟨0,qc _,rfl,w,WY.refl _ _ _⟩
 case round =>
  obtain⟨k,M,rfl,c,y⟩:=hrel;by_cases hlt:k<2*n
  .have H:=(World.cell?_of_block (a:=⟨g,0,none⟩) y.1).trans s;have G:=(World.cell?_of_block (a:=⟨b,0,none⟩) y.2).trans r;obtain⟨fn,tmps,j,t,E,A⟩:=B _ (spot n h d k) wr c<|by rw[SR];exact hlt
   have C:(((spot n h d k).val:Nat):Int)=((h:Int)+(k:Int))%(n:Int):=by simp[spot]
   rw[C] at E
   gi_wp2
   refine A.mono ?_;rintro e K (⟨rfl,q,p⟩|⟨rfl,f⟩)
   .gi_wp2
    go_roundw
    case rel=>exact⟨k+1,A1,A3,by rw[Pa];exact q,y.trans p⟩
    case measure=>simp[intOf];omega
   .gi_wp2
    exact rh (results_none rfl _ _ _) rfl ZEw
  obtain rfl:k=2*n:=by omega
  gi_wp2
  go_end0
  exact⟨⟨_,rfl⟩,.inl ⟨_,rfl,c⟩⟩
def oy:App prog 159 4 1 1:=Xcj (z:=.bool false) Tryz.underlying159 A6 rfl K
def XS (B:Nat) (A:ce) (c:Nat) (zs:bo) (w:d7) (y:Rd w B A<|zs.map .bool) (z:0<zs.length) (m:zs.length<=65536) (g:B<=w.heap.size) :
 Calls prog 214 #[.slice A zs.length c] w λe w'=>∃v,e=.returned v/\w'.ownsRow w.heap.size 4 1 v zs.length (zs.map .bool)/\Below w.heap.size w w':=by
 obtain⟨b,off,rfl,o,f⟩:=y<|by intro h0;rw[List.map_eq_nil_iff] at h0;subst h0;simp at z
 have a:=qO y;clear y f;have l:=Lib.run_eql_slice_nil (P:=prog) w 159 4 (some ⟨b,off,none⟩) zs.length c 0 0 Tryz.underlying159
 go_enter Tryz.func214,Tryz.ntmps214
 have x:(w.alloc<|.cells #[] 4).ownsRow w.heap.size 4 1 (.slice (some ⟨w.heap.size,0,none⟩) 0 0) 0 []:=⟨rfl,.inr ⟨w.heap.size,0,#[],rfl,qb _,qJ w _,qb _,qc _,rfl,rfl⟩⟩
 go_wp2_with (at_builtin;refine Pv oy rfl (.tmp 5) (.tmp 6) rfl w.heap.size _ 0 [] rfl x B _ zs.length c (zs.map .bool) rfl A3 (a.out.alloc g _) (Xf4 _) (by unfold maxLen;omega) J A3 ?_;intro j w' h i n)
 go_ret
 exact⟨_,rfl,sv,((qT _ _).alloc (qb _) _).grown i A3<|λk d=>by cases d;exact qb _⟩
def Xig (a:Int) (n:Nat) (w:d7) (f:(Lit.int .i64 a).wf) (y:0<n) (g:n<=65536) :
 Calls prog 213 #[aa a,aa (n:Int)] w λe w'=>e=.returned (aa<|a%(n:Int))/\w=w':=by
 have c:(n:Int)≠0:=J
 have b:(IntKind.i64.wrap<|a.tmod (n:Int)+(n:Int)).tmod (n:Int)=a%(n:Int):=by
  have h:=Int.tmod_lt_of_pos a<|show (0:Int)<n by omega
  have x : -(n:Int)<a.tmod n:=Int.lt_tmod_of_pos a J;rw[show IntKind.i64.wrap (a.tmod (n:Int)+(n:Int))=a.tmod (n:Int)+(n:Int) from by rw[IntKind.wrap_i64];omega];rw[Int.tmod_eq_emod_of_nonneg J,Int.add_emod_right];by_cases hs:0<=a
  .rw[Int.tmod_eq_emod_of_nonneg hs,Int.emod_emod_of_dvd _<|Int.dvd_refl _]
  rw[Xjy (n:Int)<|show a<0 by omega];have hd:=Int.emod_add_mul_ediv (-a) (n:Int);rw[show -(-a%(n:Int))=a+(n:Int)*(-a/(n:Int)) from by omega,Int.add_mul_emod_self_left]
 have d:=Int.tmod_lt_of_pos a<|show (0:Int)<n by omega
 clear y
 go_enter Tryz.func213,Tryz.ntmps213
 go_wp2
 go_ret
 exact⟨congrArg Ei<|(congrArg (λz:Int=>z.tmod (n:Int))<|show wrap64 (a.tmod (n:Int)+(n:Int))=IntKind.i64.wrap (a.tmod (n:Int)+(n:Int)) by simp[wrap64,IntKind.wrap_i64]).trans b,rfl⟩
set_option maxHeartbeats 1000000 in
def Xih (F:Fence) (m:Nat) (y:F.fn 215) (x:F.round=none) (h n:Int) (w:d7) :
 CallsIn F m prog 215 #[aa h,aa n] w λe z=>e=.returned (.func (.func 271) #[] #[.pointer<|some ⟨w.heap.size+1,0,none⟩,.pointer<|some ⟨w.heap.size,0,none⟩])/\z=(w.alloc<|.cells #[aa h] 3).alloc (.cells #[aa n] 3):=by
 refine callsIn_of_wp Tryz.func215 rfl y ?_ x;simp only[Tryz.ntmps215,List.size_toArray,pz,sR,Nat.reduceAdd,Nat.reduceSub,Array.replicate_succ,Array.replicate_zero,List.push_toArray,List.append_toArray,qU,pt]
 gi_wp2
 go_ret
 exact⟨rfl,rfl⟩
def Xe5 (F:Fence) (m:Nat) (o:F.fn 271) (b:F.round=none) (hm:1<=m) (y z n h:Nat) (q:n<=65536) (a:0<n) (r:h<n) (w:d7) (s:y<w.heap.size) (e:z<w.heap.size)
 (d:w.cell? ⟨y,0,none⟩=some (aa (n:Int))) (c:w.cell? ⟨z,0,none⟩=some (aa (h:Int))) :
 SeqStopsK F m prog 271 #[pV y,pV z] (λx:Fin n=>#[aa ((x.val:Nat):Int)]) (WY y z) (λys=>ys=FX (spot n h a) (2*n)) (λpre=>∃k,k<=2*n/\pre=FX (spot n h a) k) (2*n) w:=λl J i W f _ _ j g =>
 Xgy F m o b hm l y z n h q a r J i j W ((f.cell (p:=⟨y,0,none⟩) s).trans d) ((f.cell (p:=⟨z,0,none⟩) e).trans c) g
def XT (o:Oper):Bool:=match o.op with
 |.move _|.load _ _|.store _ _ _|.binOp _ _ _ _ _|.assign _=>true
 |_=>false
def K6 {m:Sem α} {f:α->Next} {x:d7} {n:Next} (h:Sem.run P (m >>= λv=>pure<|f v) w=.ok n x):∃v,n=f v:=by
 rw[qC] at h;cases hm:m.run P w with
 |ok v w1 =>
  rw[hm] at h;simp only[qE,qD] at h;cases h
  exact⟨v,rfl⟩
 |halt e w1 =>
  rw[hm] at h;cases h
def Xgz (h:XT o) (ρ:d5->d0) (w z:d7) (n:Next) (x:(execOp ρ o).run P w=.ok n z):(∃v,n=.value v)\/n=.skip:=by
 unfold XT at h;unfold execOp at x;cases ho:o.op<;>simp only[ho] at h x<;>first|(cases h;done)|skip
 .rw[qD] at x;cases x;exact .inl ⟨_,rfl⟩
 .rw[qD] at x;cases x;exact .inl ⟨_,rfl⟩
 .obtain⟨v,y⟩:=K6 x;exact .inl ⟨v,y⟩
 .obtain⟨v,y⟩:=K6 (f:=λ_=>Next.skip) x;exact .inr y
 obtain⟨v,y⟩:=K6 x;exact .inl ⟨v,y⟩
def Xi7 {K:aO} {l:Nat} (h:XT o) (x:o.wp P a w K Q):o.wpIn (Fence.wide.inRound l) n P a w K Q:=by
 refine⟨λ_ _=>trivial,?_⟩;rw[show (Fence.wide.inRound l).round=some l from rfl,Oper.semAt_some l a.eval o<|λc y=>by unfold XT at h;rw[y] at h;cases h];unfold Oper.wp at x;cases hr:(execOp a.eval o).run P w with
 |ok nx w' =>
  rw[hr] at x;rcases Xgz h _ _ _ _ hr with⟨v,rfl⟩|rfl
  .exact x
  exact x
 |halt e w' =>
  rw[hr] at x;cases e<;>first|exact x|exact x.elim
def Ko {l:Nat} (z:¬LetsOut Q) (h:∀(i:Nat) (o:Oper),ops[i]?=some o->XT o=true):∀(x:Nat) (listed:bz) (a:Act) (w:d7),wpAny P md ops Q x listed a w->wpAnyIn (Fence.wide.inRound l) n P md ops Q x listed a w
 |0,listed,a,w,hw=>hw
 |x+1,listed,a,w,hw=>by
  refine⟨hw.1,λi hi=>?_⟩
  have y:=hw.2 i hi
  unfold wpOp at y
  unfold wpOpIn
  cases ho:ops[i]? with
  |none=>rw[ho] at y;exact Ko z h x _ _ _ y
  |some o =>
   rw[ho] at y
   simp only at y ⊢
   split
   .rename_i hq
    rw[pN hq] at y
    rcases y with y|y
    .exact Oper.wpIn_mono (λa w b=>Ko z h x _ _ _ b)<|Xi7 (h i o ho) y
    .exact absurd y.2 z
   .rename_i hq
    rw[pQ hq] at y
    exact⟨λ_ _=>trivial,Ko z h x _ _ _ y⟩
def XgA {S:aU} {l n y:Nat} {a:Act} (hm:P.follows .mixedOrders) (x:¬LetsOut Q) (h:ops.toList.all XT) (c:S w.drew)
 (z:S w.drew->wpAnyH P .any ops Q S ops.size (Array.replicate ops.size false) a w.drew):(Code.region y ops true).wpIn (Fence.wide.inRound l) n P Q a w :=
 wpIn_region_any hm<|Ko x (λi o b=>rT.1 h o<|Array.mem_toList_iff.2<|Array.mem_of_getElem? b) _ _ _ _<|wpAny_of_held _ _ _ _<|z c
def Pb {P:d8} {md:Region.Mode} {l:bv} {Q:aB} {S:aU} {y:Oper} (v:d0) {x:Nat} {listed:bz} {a:Act} {w:d7} (hi:l[i]?=some y)
 (f:Region.noSelect l.toArray) (g:Region.free md l.toArray listed i) (d:(Region.ready md l.toArray listed).contains i)
 (e:∀c a w,Q (.panic c) (a.put y.dst v) w->Q (.panic c) a w) (z:Region.wanted y<|yielded l.toArray a.tmps) (b:S w) (j:∀w,S w->(execOp a.eval y).run P w=.ok (.value v) w)
 (h:wpAnyH P md l.toArray Q S x (listed.setIfInBounds i true) (a.put y.dst v) w):wpAnyH P md l.toArray Q S (x+1) listed a w :=
 wpAnyH_take (by rw[rj];exact hi) f g d e (Or.inl ⟨z,j⟩) b h
attribute [local go_sem] Oper.semAt_some
def FE (can:bo) {n:Nat}:List (Fin n)->bo->Option (Fin n)×bo
 |[],l=>(none,l)
 |k::ks,l=>if can[k.val]?.getD false then (if l[k.val]?.getD false then FE can ks (l.set k.val false) else (some k,l)) else FE can ks l
def GK {can:bo} {n:Nat}:∀(pre r:List<|Fin n) (ref:bo),FE can (pre++r) ref=match (FE can pre ref).1 with|some k=>(some k,(FE can pre ref).2)|none=>FE can r (FE can pre ref).2
 |[],r,ref=>rfl
 |k::ks,r,ref=>by
  simp only[pt,FE]
  split
  .split
   .exact GK ks r _
   .rfl
  .exact GK ks r _
def NP {can:bo}:∀(pre:List<|Fin n) (ref:bo),(FE can pre ref).2.length=ref.length
 |[],ref=>rfl
 |k::ks,ref=>by
  simp only[FE]
  split
  .split
   .rw[NP ks];simp
   .rfl
  .exact NP ks ref
def NQ {n:Nat} (h:Nat):Option (Fin n)->d0->d0
 |none,v=>.tuple #[aa (-1),aa (h:Int),v]
 |some k,v=>.tuple #[aa ((k.val:Nat):Int),aa (((k.val+1)%n:Nat):Int),v]
def XgB {can:bo} {pre:List<|Fin n} {x:Fin n} {ref:bo} (h:FE can pre ref=(none,l)):FE can (pre++[x]) ref=if can[x.val]?.getD false then (if l[x.val]?.getD false then (none,l.set x.val false) else (some x,l)) else (none,l):=by
 rw[GK,h];simp only[FE]
def Uv (f:Nat->α) {k N:Nat} (h:k<=N):∃r,FX f N=FX f k++r:=by
 refine⟨(List.range<|N-k).map<|λj=>f<|k+j,?_⟩;unfold FX;rw[show N=k+(N-k) from by omega,List.range_add,qR,rG];simp[Function.comp]
def DX {B:d7} {t:d4} {v:d0} (h:Boxed A k t v) (z:A.grownBy B row) (y:∀r,row=some r->∃o:Obj,A.heap[r]?=some o/\o.isCells=false):Boxed B k t v :=
 h.kept z (λe'=>by obtain⟨o,x,a⟩:=y k e'.symm;rw[show A.heap[k]?=_ from h] at x;cases x;cases a)
def QI {B:d7} {base cap:Nat} {e:d4} {x:Nat} {xs:bi} (h:A.ownsRow base e x (.slice (some ⟨g,0,none⟩) n cap) n xs) (b:A.grownBy B row) (d:∀r,row=some r->∃o:Obj,A.heap[r]?=some o/\o.isCells=false):B.ownsRow base e x (.slice (some ⟨g,0,none⟩) n cap) n xs :=
 h.kept b<|.inr (λe'=>by
  obtain⟨o,a,f⟩:=d g<|by rw[<-e'];rfl
  rcases h.2 with⟨y,_⟩|⟨j,z,c,y,_,i,_⟩
  .cases y
  .cases y
   rw[i] at a;cases a;cases f)
def LR {B:d7} (h:A.grownBy B<|some g) (x:k≠g) (y:k<A.heap.size):B.heap[k]?=A.heap[k]?:=h.block k y<|λe=>x<|by cases e;rfl
set_option maxRecDepth 100000 in
set_option maxHeartbeats 4000000 in
def XX (B:Nat) (A0 J:ce) (c0 c1:Nat) (cs rs:bo) (hand:Int) (n:Nat) (w:d7) (hn:n<=65536) (M:0<n) (h0:cs.length=n) (h1:rs.length=n) (hw:(Lit.int .i64 hand).wf)
 (N:Rd w B A0<|cs.map .bool) (h5:Rd w B J<|rs.map .bool) (m:B<=w.heap.size) (h:Nat) (hh:hand%(n:Int)=h) :
 Calls prog 143 #[.slice A0 n c0,.slice J n c1,aa hand] w λe w'=>∃v,e=.returned (NQ h (FE cs (FX (spot n h M)<|2*n) rs).1 v) /\
  w'.ownsRow w.heap.size 4 1 v n ((FE cs (FX (spot n h M)<|2*n) rs).2.map .bool)/\Below w.heap.size w w':=by
 obtain⟨a0,y,rfl,z1,T⟩:=N<|by intro h';rw[List.map_eq_nil_iff] at h';subst h';simp at h0;omega
 have HA:=qO T;clear T;have h8:h<n:=by have:=Int.emod_lt_of_pos hand (show (0:Int)<n by omega);omega
 have k0:¬(n:Int)=0:=by omega
 have HC:=qO<|λ(W:d7) (f:Rd W B J<|rs.map .bool) (m:B<=W.heap.size)=>h1▸XS B J c1 rs W f (by omega) (by omega) m
 have HR:=qO<|λW=>Xig hand n W hw M hn
 have h2:=qO h5;have h7:=qO N;refine (callsIn_wide (n:=3)).1<|callsIn_of_wp_marks Tryz.func143 rfl trivial ?_ rfl;simp only[Tryz.ntmps143,List.size_toArray,pz,sR,Nat.reduceAdd,Nat.reduceSub,Array.replicate_succ,Array.replicate_zero,List.push_toArray,List.append_toArray,qU,pt];clear N h5 hw;have f3:Boxed (((((w.alloc<|.cells #[.slice (some ⟨a0,y,none⟩) n c0] 159).alloc<|.cells #[aa 0] 3).alloc<|.cells #[aa 0] 3).alloc<|.cells #[.slice none 0 0] 159).alloc<|.cells #[aa (n:Int)] 3) w.heap.size 159 (.slice (some ⟨a0,y,none⟩) n c0):=((((Boxed.new w _ _).alloc _).alloc _).alloc _).alloc _
 have f6:Boxed (((((w.alloc<|.cells #[.slice (some ⟨a0,y,none⟩) n c0] 159).alloc<|.cells #[aa 0] 3).alloc<|.cells #[aa 0] 3).alloc<|.cells #[.slice none 0 0] 159).alloc<|.cells #[aa (n:Int)] 3) (w.heap.size+1) 3 (aa 0):=by
  have:=Boxed.new (w.alloc<|.cells #[.slice (some ⟨a0,y,none⟩) n c0] 159) 3<|aa 0;rw[rE] at this;exact ((this.alloc _).alloc _).alloc _
 have f7:Boxed (((((w.alloc<|.cells #[.slice (some ⟨a0,y,none⟩) n c0] 159).alloc<|.cells #[aa 0] 3).alloc<|.cells #[aa 0] 3).alloc<|.cells #[.slice none 0 0] 159).alloc<|.cells #[aa (n:Int)] 3) (w.heap.size+1+1) 3 (aa 0):=by
  have:=Boxed.new ((w.alloc<|.cells #[.slice (some ⟨a0,y,none⟩) n c0] 159).alloc<|.cells #[aa 0] 3) 3<|aa 0;simp only[rE] at this;exact (this.alloc _).alloc _
 have f8:Boxed (((((w.alloc<|.cells #[.slice (some ⟨a0,y,none⟩) n c0] 159).alloc<|.cells #[aa 0] 3).alloc<|.cells #[aa 0] 3).alloc<|.cells #[.slice none 0 0] 159).alloc<|.cells #[aa (n:Int)] 3) (w.heap.size+1+1+1) 159 (.slice none 0 0):=by
  have:=Boxed.new (((w.alloc<|.cells #[.slice (some ⟨a0,y,none⟩) n c0] 159).alloc<|.cells #[aa 0] 3).alloc<|.cells #[aa 0] 3) 159<|.slice none 0 0;simp only[rE] at this;exact this.alloc _
 have f9:Boxed (((((w.alloc<|.cells #[.slice (some ⟨a0,y,none⟩) n c0] 159).alloc<|.cells #[aa 0] 3).alloc<|.cells #[aa 0] 3).alloc<|.cells #[.slice none 0 0] 159).alloc<|.cells #[aa (n:Int)] 3) (w.heap.size+1+1+1+1) 3 (aa (n:Int)):=by
  have:=Boxed.new ((((w.alloc<|.cells #[.slice (some ⟨a0,y,none⟩) n c0] 159).alloc<|.cells #[aa 0] 3).alloc<|.cells #[aa 0] 3).alloc<|.cells #[.slice none 0 0] 159) 3<|aa (n:Int);simp only[rE] at this;exact this
 have fs:(((((w.alloc<|.cells #[.slice (some ⟨a0,y,none⟩) n c0] 159).alloc<|.cells #[aa 0] 3).alloc<|.cells #[aa 0] 3).alloc<|.cells #[.slice none 0 0] 159).alloc<|.cells #[aa (n:Int)] 3).heap.size=w.heap.size+1+1+1+1+1:=by simp only[rE]
 have fb:Below w.heap.size w (((((w.alloc<|.cells #[.slice (some ⟨a0,y,none⟩) n c0] 159).alloc<|.cells #[aa 0] 3).alloc<|.cells #[aa 0] 3).alloc<|.cells #[.slice none 0 0] 159).alloc<|.cells #[aa (n:Int)] 3):=((((qT _ w).alloc (qb _) _).alloc (by simp only[rE];omega) _).alloc (by simp only[rE];omega) _).alloc (by simp only[rE];omega) _ |>.alloc (by simp only[rE];omega) _;have L:Rd (((((w.alloc<|.cells #[.slice (some ⟨a0,y,none⟩) n c0] 159).alloc<|.cells #[aa 0] 3).alloc<|.cells #[aa 0] 3).alloc<|.cells #[.slice none 0 0] 159).alloc<|.cells #[aa (n:Int)] 3) B J (rs.map .bool):=h2.out.below<|fb.mono m
 gi_wp2_with fail
 generalize (((((w.alloc<|.cells #[.slice (some ⟨a0,y,none⟩) n c0] 159).alloc<|.cells #[aa 0] 3).alloc<|.cells #[aa 0] 3).alloc<|.cells #[.slice none 0 0] 159).alloc<|.cells #[aa (n:Int)] 3)=W0 at f3 f6 f7 f8 f9 fs fb L ⊢;refine⟨T0,(callsIn_wide.2<|HR.out W0).mono ?_⟩;rintro e w' ⟨rfl,rfl⟩;rw[hh];have k3:=qO f3;have k6:=qO f6;have k7:=qO f7;have k9:=qO f9;have kb:=qO fb;have ks:=qO fs;clear f3 f6 f7 fb;have h4:=qO<|HC.out W0 L<|by omega
 clear L
 gi_wp2_with fail
 refine⟨T0,(callsIn_wide.2 h4.out).mono ?_⟩;rintro e w1 ⟨v,rfl,C,hb⟩;obtain⟨g,cap,rfl,y1,x3⟩:=C.form M;have lt:=λ{k:Nat} (hk:k<w.heap.size+1+1+1+1+1)=>hb.block k<|by rw[ks.out];exact hk
 have m3:Boxed w1 w.heap.size 159 (.slice (some ⟨a0,y,none⟩) n c0):=(lt<|by omega).trans k3.out;have m6:Boxed w1 (w.heap.size+1) 3 (aa 0):=(lt<|by omega).trans k6.out;have m7:Boxed w1 (w.heap.size+1+1) 3 (aa 0):=(lt<|by omega).trans k7.out;have m8:Boxed w1 (w.heap.size+1+1+1) 159 (.slice none 0 0):=(lt<|by omega).trans f8;have m9:Boxed w1 (w.heap.size+1+1+1+1) 3 (aa (n:Int)):=(lt<|by omega).trans k9.out;have zb:Below w.heap.size w w1:=kb.out.trans<|hb.mono (by have:=ks.out;omega);have zs:w.heap.size+1+1+1+1+1<=w1.heap.size:=by have:=hb.size;have:=ks.out;omega
 clear lt f8 f9 hb;have x8:=m8.cell;have O:=m8.frozen;have p9:=Boxed.other (B':=w.heap.size+1+1+1) m9 (by omega)<|.slice (some ⟨g,0,none⟩) n cap;have p3:=Boxed.other (B':=w.heap.size+1+1+1) m3 (by omega)<|.slice (some ⟨g,0,none⟩) n cap;have Y:=Boxed.other (B':=w.heap.size+1+1+1) m6 (by omega)<|.slice (some ⟨g,0,none⟩) n cap;have X:=Boxed.other (B':=w.heap.size+1+1+1) m7 (by omega)<|.slice (some ⟨g,0,none⟩) n cap;have U:=Boxed.set (.slice (some ⟨g,0,none⟩) n cap) m8;have x9:=p9.cell;have ow:=C.kept (grownBy_setCell' w1 (w.heap.size+1+1+1)<|.slice (some ⟨g,0,none⟩) n cap)<|.inr (by have:=ks.out;simp[Value.ownBlock];omega);have o3:Boxed (((w1.setCell ⟨w.heap.size+1+1+1,0,none⟩<|.slice (some ⟨g,0,none⟩) n cap).alloc<|.cells #[aa (h:Int)] 3).alloc<|.cells #[aa (n:Int)] 3) w.heap.size 159 (.slice (some ⟨a0,y,none⟩) n c0):=(p3.alloc _).alloc _;have o6:Boxed (((w1.setCell ⟨w.heap.size+1+1+1,0,none⟩<|.slice (some ⟨g,0,none⟩) n cap).alloc<|.cells #[aa (h:Int)] 3).alloc<|.cells #[aa (n:Int)] 3) (w.heap.size+1) 3 (aa 0):=(Y.alloc _).alloc _;have o7:Boxed (((w1.setCell ⟨w.heap.size+1+1+1,0,none⟩<|.slice (some ⟨g,0,none⟩) n cap).alloc<|.cells #[aa (h:Int)] 3).alloc<|.cells #[aa (n:Int)] 3) (w.heap.size+1+1) 3 (aa 0):=(X.alloc _).alloc _;have o8:Boxed (((w1.setCell ⟨w.heap.size+1+1+1,0,none⟩<|.slice (some ⟨g,0,none⟩) n cap).alloc<|.cells #[aa (h:Int)] 3).alloc<|.cells #[aa (n:Int)] 3) (w.heap.size+1+1+1) 159 (.slice (some ⟨g,0,none⟩) n cap):=(U.alloc _).alloc _;have o9:Boxed (((w1.setCell ⟨w.heap.size+1+1+1,0,none⟩<|.slice (some ⟨g,0,none⟩) n cap).alloc<|.cells #[aa (h:Int)] 3).alloc<|.cells #[aa (n:Int)] 3) (w.heap.size+1+1+1+1) 3 (aa (n:Int)):=(p9.alloc _).alloc _
 have oh:Boxed (((w1.setCell ⟨w.heap.size+1+1+1,0,none⟩<|.slice (some ⟨g,0,none⟩) n cap).alloc<|.cells #[aa (h:Int)] 3).alloc<|.cells #[aa (n:Int)] 3) w1.heap.size 3 (aa (h:Int)):=by
  have:=Boxed.new (w1.setCell ⟨w.heap.size+1+1+1,0,none⟩<|.slice (some ⟨g,0,none⟩) n cap) 3<|aa (h:Int);simp only[World.size_setCell] at this;exact this.alloc _
 have on:Boxed (((w1.setCell ⟨w.heap.size+1+1+1,0,none⟩<|.slice (some ⟨g,0,none⟩) n cap).alloc<|.cells #[aa (h:Int)] 3).alloc<|.cells #[aa (n:Int)] 3) (w1.heap.size+1) 3 (aa (n:Int)):=by
  have:=Boxed.new ((w1.setCell ⟨w.heap.size+1+1+1,0,none⟩<|.slice (some ⟨g,0,none⟩) n cap).alloc<|.cells #[aa (h:Int)] 3) 3<|aa (n:Int);simp only[World.size_setCell,rE] at this;exact this
 have oo:((((w1.setCell ⟨w.heap.size+1+1+1,0,none⟩<|.slice (some ⟨g,0,none⟩) n cap).alloc<|.cells #[aa (h:Int)] 3).alloc<|.cells #[aa (n:Int)] 3)).ownsRow w.heap.size 4 1 (.slice (some ⟨g,0,none⟩) n cap) n (rs.map .bool):=by
  exact Xhu (base':=w.heap.size) ((ow.alloc<|.cells #[aa (h:Int)] 3).alloc<|.cells #[aa (n:Int)] 3) (by have:=ks.out;omega)
 have os:(((w1.setCell ⟨w.heap.size+1+1+1,0,none⟩<|.slice (some ⟨g,0,none⟩) n cap).alloc<|.cells #[aa (h:Int)] 3).alloc<|.cells #[aa (n:Int)] 3).heap.size=w1.heap.size+1+1:=by simp only[World.size_setCell,rE]
 have ob:Below w.heap.size w (((w1.setCell ⟨w.heap.size+1+1+1,0,none⟩<|.slice (some ⟨g,0,none⟩) n cap).alloc<|.cells #[aa (h:Int)] 3).alloc<|.cells #[aa (n:Int)] 3):=((zb.setCell (p:=⟨w.heap.size+1+1+1,0,none⟩) (by simp;omega) _).alloc (by simp;omega) _).alloc (by simp;omega) _;clear p3 Y X U p9 ow C m3 m6 m7 m8 m9 zb
 gi_wp2_with fail
 refine⟨T0,(Xih Fence.wide 2 trivial rfl _ _ _).mono ?_⟩;rintro e w' ⟨rfl,rfl⟩;rw[World.size_setCell];generalize (((w1.setCell ⟨w.heap.size+1+1+1,0,none⟩<|.slice (some ⟨g,0,none⟩) n cap).alloc<|.cells #[aa (h:Int)] 3).alloc<|.cells #[aa (n:Int)] 3)=W3 at o3 o6 o7 o8 o9 oh on oo os ob ⊢;generalize w1.heap.size=bh at oh on os zs x3 ⊢;clear x8 O x9
 gi_wp2_with fail
 refine wpIn_rangeFunc_ownF rfl (by decide) (gf:=271) (lb:=#[.pointer<|some ⟨bh+1,0,none⟩,pV bh]) rfl trivial (enters_of Tryz.func271 (by kernel_rfl) rfl)
  (Xe5 Fence.wide 2 trivial rfl (by decide) (bh+1) bh n h hn M h8 W3 (by omega) (by omega) on.cell oh.cell) (λh h'=>h.trans h')
  (λW l o o' hl _ _ _=>⟨by show (W.putObj l o').heap[bh+1]?=_;exact World.putObj_heap_other<|by omega,by show (W.putObj l o').heap[bh]?=_;exact World.putObj_heap_other<|by omega⟩) (qT _ _) (λ_=>rfl)
  (λpre W=>(∃lf:bo,FE cs pre rs=(none,lf)/\Boxed W w.heap.size 159 (.slice (some ⟨a0,y,none⟩) n c0)/\Boxed W (w.heap.size+1) 3 (aa 0)/\Boxed W (w.heap.size+1+1) 3 (aa 0)/\Boxed W (w.heap.size+1+1+1) 159 (.slice (some ⟨g,0,none⟩) n cap)/\Boxed W (w.heap.size+1+1+1+1) 3 (aa (n:Int))/\W.ownsRow w.heap.size 4 1 (.slice (some ⟨g,0,none⟩) n cap) n (lf.map .bool)/\bh+1<W.heap.size)/\Below w.heap.size w W)
  (λc pre W=>(c=.ret/\∃(x:Fin n) (lf:bo),FE cs pre rs=(some x,lf)/\Boxed W (w.heap.size+1) 3 (aa ((x.val:Nat):Int))/\Boxed W (w.heap.size+1+1) 3 (aa (((x.val+1)%n:Nat):Int))/\Boxed W (w.heap.size+1+1+1) 159 (.slice (some ⟨g,0,none⟩) n cap)/\W.ownsRow w.heap.size 4 1 (.slice (some ⟨g,0,none⟩) n cap) n (lf.map .bool))/\Below w.heap.size w W)
  (OwnFrom.and (Own.from (λs A B row V q f=>by obtain⟨lf,e1,e2,e3,e4,e5,e6,e7,e8⟩:=V;exact⟨lf,e1,DX e2 q f,DX e3 q f,DX e4 q f,DX e5 q f,DX e6 q f,QI e7 q f,sg e8 q.size⟩) _)<|ownFrom_below (qb _)<|by omega)
  (λc=>OwnFrom.and (Own.from (λs A B row V q f=>by obtain⟨e0,x,lf,e1,e2,e3,e4,e5⟩:=V;exact⟨e0,x,lf,e1,DX e2 q f,DX e3 q f,DX e4 q f,QI e5 q f⟩) _)<|ownFrom_below (qb _)<|by omega)
  ⟨⟨rs,rfl,o3,o6,o7,o8,o9,oo,by omega⟩,ob⟩
  (λx=>{tmps:=#[Value.slice (some ⟨a0,y,none⟩) n c0,Value.slice J n c1,aa (h:Int),.pointer<|some ⟨w.heap.size,0,none⟩,undef,undef,.pointer<|some ⟨w.heap.size+1,0,none⟩,.pointer<|some ⟨w.heap.size+1+1,0,none⟩,.pointer<|some ⟨w.heap.size+1+1+1,0,none⟩,.pointer<|some ⟨w.heap.size+1+1+1+1,0,none⟩,aa ((x.val:Nat):Int),.slice (some ⟨a0,y,none⟩) n c0,aa (n:Int),aa (n:Int),.bool false,.bool false,.slice J n c1,aa (n:Int),aa (n:Int),.bool false,.bool false,aa hand,aa (n:Int),aa (h:Int),.slice J n c1,.slice (some ⟨g,0,none⟩) n cap,aa (h:Int),aa (n:Int),.func (.func 271) #[] #[.pointer<|some ⟨bh+1,0,none⟩,pV bh],aa ((x.val:Nat):Int),undef,undef,undef,undef,undef,undef,undef,undef,undef,undef,undef,undef,undef,undef,undef,undef,undef,undef,undef,undef,undef,undef],defers:=[]}) ?assign ?body ?done ?stop
 case assign =>
  intro l x W K d
  gi_wp2
  exact d
 case body =>
  rintro l pre x W ⟨⟨lf,j,q3,t,u,E,q9,F,qs⟩,m⟩ _;have hx:=x.isLt;have y5:lf.length=n:=by have:=F.1;simpa using this
  have Z:W.cell? ⟨a0,y+x.val,none⟩=some (.bool<|cs[x.val]?.getD false):=(m.cell (p:=⟨a0,y+x.val,none⟩)<|by show a0<w.heap.size;omega).trans<|HA.out x.val _<|by rw[qq,pE<|by omega];rfl
  have cl:W.cell? ⟨g,x.val,none⟩=some (.bool<|lf[x.val]?.getD false):=by
   rw[F.cellAt x.val<|by omega,qq,pE<|by omega];rfl
  have fl:=F.frozenAt x.val;have s:=qO<|XgB (x:=x) j;generalize cs[x.val]?.getD false=bc at Z s;generalize lf[x.val]?.getD false=bl at cl s;have y3:=q3.cell;have y6:=t.cell;have y7:=u.cell;have O:=E.cell;have y9:=q9.cell;have z6:=t.frozen;have z7:=u.frozen;have z8:=E.frozen;have h6:w.heap.size+1+1+1+1+1<=g:=by have:=ks.out;omega
  have Q:g≠bh+1/\g≠bh:=by omega
  have x4:=m.size;have x0:(0:Int)<=((x.val:Nat):Int):=by omega
  have x1:((x.val:Nat):Int)<(n:Int):=by omega
  have b:=qO<|F.stored x.val<|.bool false;clear j ob zs oo os;cases bc with
  |false =>
   gi_wp2
   exact⟨KeepsOthers.refl _,WY.refl _ _ _,⟨lf,by simpa using s.out,q3,t,u,E,q9,F,qs⟩,m⟩
  |true =>
   cases bl with
   |true =>
    gi_wp2
    exact⟨KeepsOthers.setCell _ _ _,⟨LR b.out.2 (λe=>Q.1 e.symm) qs,LR b.out.2 (λe=>Q.2 e.symm)<|Nat.lt_of_succ_lt qs⟩,⟨lf.set x.val false,by simpa using s.out,q3.kept b.out.2 (by simp;omega),t.kept b.out.2 (by simp;omega),u.kept b.out.2 (by simp;omega),E.kept b.out.2 (by simp;omega),q9.kept b.out.2 (by simp;omega),by rw[rH];exact b.out.1,by simpa using qs⟩,m.setCell (p:=⟨g,x.val,none⟩) (by simp;omega) _⟩
   |false =>
    have e1:IntKind.i64.wrap (((x.val:Nat):Int)+1)=((x.val:Nat):Int)+1:=by rw[IntKind.wrap_i64];omega
    have n0:¬(n:Int)=0:=by omega
    have ht:(((x.val:Nat):Int)+1).tmod (n:Int)=(((x.val:Nat):Int)+1)%(n:Int):=Int.tmod_eq_emod_of_nonneg<|by omega
    have x2:(0:Int)<=((x.val:Nat):Int)+1:=by omega
    gi_wp2
    refine XgA (S:=λW'=>W'.cell? ⟨w.heap.size+1+1+1+1,0,none⟩=some (aa (n:Int))/\W'.cell? ⟨w.heap.size+1+1+1,0,none⟩=some (.slice (some ⟨g,0,none⟩) n cap)) (by kernel_rfl) (λh=>by obtain⟨a,w,h⟩:=h;exact h) (by kernel_rfl) ⟨y9,O⟩<|λP=>(Pb (i:=0) (aa ((x.val:Nat):Int)) rfl (by kernel_rfl) (by kernel_rfl) (by kernel_rfl) (λ_ _ _ h=>h) (by rfl) P ?_ ?_)
    .intro w z
     try dsimp only at z
     go_simp
    try simp only[Act.put,List.setIfInBounds_toArray,rL,sC]
    refine Pb (i:=1) (aa ((x.val:Nat):Int)) rfl (by kernel_rfl) (by kernel_rfl) (by kernel_rfl) (λ_ _ _ h=>h) (by rfl) P ?_ ?_
    .intro w z
     try dsimp only at z
     go_simp
    try simp only[Act.put,List.setIfInBounds_toArray,rL,sC]
    refine Pb (i:=2) (aa<|((x.val:Nat):Int)+1) rfl (by kernel_rfl) (by kernel_rfl) (by kernel_rfl) (λ_ _ _ h=>h) (by rfl) P ?_ ?_
    .intro w z
     try dsimp only at z
     go_simp
    try simp only[Act.put,List.setIfInBounds_toArray,rL,sC]
    refine Pb (i:=3) (aa (n:Int)) rfl (by kernel_rfl) (by kernel_rfl) (by kernel_rfl) (λ_ _ _ h=>h) (by rfl) P ?_ ?_
    .intro w z
     try dsimp only at z
     go_simp
    try simp only[Act.put,List.setIfInBounds_toArray,rL,sC]
    refine Pb (i:=4) (aa<|(((x.val:Nat):Int)+1)%(n:Int)) rfl (by kernel_rfl) (by kernel_rfl) (by kernel_rfl) (λ_ _ _ h=>h) (by rfl) P ?_ ?_
    .intro w z
     try dsimp only at z
     go_simp
    try simp only[Act.put,List.setIfInBounds_toArray,rL,sC]
    refine Pb (i:=5) (.slice (some ⟨g,0,none⟩) n cap) rfl (by kernel_rfl) (by kernel_rfl) (by kernel_rfl) (λ_ _ _ h=>h) (by rfl) P ?_ ?_
    .intro w z
     try dsimp only at z
     go_simp
    try simp only[Act.put,List.setIfInBounds_toArray,rL,sC]
    have x7:(W.drew.setCell ⟨w.heap.size+1,0,none⟩<|aa ((x.val:Nat):Int)).cell? ⟨w.heap.size+1+1,0,none⟩=some (aa 0):=(World.cell?_setCell_far _ _ _ _<|by simp).trans y7;have x5:(W.drew.setCell ⟨w.heap.size+1,0,none⟩<|aa ((x.val:Nat):Int)).frozen? ⟨w.heap.size+1+1,0,none⟩=false:=by rw[World.frozen?_setCell];exact z7
    have h3:((W.drew.setCell ⟨w.heap.size+1,0,none⟩<|aa ((x.val:Nat):Int)).setCell ⟨w.heap.size+1+1,0,none⟩<|aa<|(((x.val:Nat):Int)+1)%(n:Int)).cell? ⟨w.heap.size+1+1+1,0,none⟩=some (.slice (some ⟨g,0,none⟩) n cap):=(World.cell?_setCell_far _ _ _ _<|by simp).trans<|(World.cell?_setCell_far _ _ _ _<|by simp).trans O;have y2:((W.drew.setCell ⟨w.heap.size+1,0,none⟩<|aa ((x.val:Nat):Int)).setCell ⟨w.heap.size+1+1,0,none⟩<|aa<|(((x.val:Nat):Int)+1)%(n:Int)).frozen? ⟨w.heap.size+1+1+1,0,none⟩=false:=by rw[World.frozen?_setCell,World.frozen?_setCell];exact z8
    have R:((W.drew.setCell ⟨w.heap.size+1,0,none⟩<|aa ((x.val:Nat):Int)).setCell ⟨w.heap.size+1+1,0,none⟩<|aa<|(((x.val:Nat):Int)+1)%(n:Int)).cell? ⟨w.heap.size+1+1+1+1,0,none⟩=some (aa (n:Int)):=(World.cell?_setCell_far _ _ _ _<|by simp).trans<|(World.cell?_setCell_far _ _ _ _<|by simp).trans y9;refine wpAnyH_ready (rs:=[6]) (by kernel_rfl) (by simp)<|AllReadyH.cons (by rw[rj];rfl) (λK d=>?_) AllReadyH.nil
    go_simp
    refine d.out _ (W.drew.setCell ⟨w.heap.size+1,0,none⟩<|aa ((x.val:Nat):Int)) ⟨(World.cell?_setCell_far _ _ _ _<|by simp).trans y9,(World.cell?_setCell_far _ _ _ _<|by simp).trans O⟩<|λy4=>?_
    clear d K
    try simp only[Act.put,List.setIfInBounds_toArray,rL,sC]
    refine wpAnyH_ready (rs:=[7]) (by kernel_rfl) (by simp)<|AllReadyH.cons (by rw[rj];rfl) (λK d=>?_) AllReadyH.nil
    go_simp
    refine d.out _ ((W.drew.setCell ⟨w.heap.size+1,0,none⟩<|aa ((x.val:Nat):Int)).setCell ⟨w.heap.size+1+1,0,none⟩<|aa<|(((x.val:Nat):Int)+1)%(n:Int)) ⟨R,h3⟩<|λx6=>?_
    clear d K
    try simp only[Act.put,List.setIfInBounds_toArray,rL,sC]
    refine wpAnyH_ready (rs:=[8]) (by kernel_rfl) (by simp)<|AllReadyH.cons (by rw[rj];rfl) (λK d=>?_) AllReadyH.nil
    go_simp
    refine d.out _ (((W.drew.setCell ⟨w.heap.size+1,0,none⟩<|aa ((x.val:Nat):Int)).setCell ⟨w.heap.size+1+1,0,none⟩<|aa<|(((x.val:Nat):Int)+1)%(n:Int)).setCell ⟨w.heap.size+1+1+1,0,none⟩<|.slice (some ⟨g,0,none⟩) n cap) ⟨(World.cell?_setCell_far _ _ _ _<|by simp).trans R,World.cell?_setCell_same' _ _ _<|by rw[h3];rfl⟩<|λz2=>?_
    clear d K
    try simp only[Act.put,List.setIfInBounds_toArray,rL,sC]
    refine wpAnyH_done (by kernel_rfl) ?_ _
    gi_wp2
    have em:((((x.val:Nat):Int)+1)%(n:Int))=(((x.val+1)%n:Nat):Int):=by simp
    rw[em];have r6:Boxed (((W.drew.setCell ⟨w.heap.size+1,0,none⟩<|aa ((x.val:Nat):Int)).setCell ⟨w.heap.size+1+1,0,none⟩<|aa (((x.val+1)%n:Nat):Int)).setCell ⟨w.heap.size+1+1+1,0,none⟩<|.slice (some ⟨g,0,none⟩) n cap) (w.heap.size+1) 3 (aa ((x.val:Nat):Int)):=((Boxed.set (aa ((x.val:Nat):Int))<|show Boxed W.drew (w.heap.size+1) 3 (aa 0) from t).other (B':=w.heap.size+1+1) (by omega)<|aa (((x.val+1)%n:Nat):Int)).other (B':=w.heap.size+1+1+1) (by omega)<|.slice (some ⟨g,0,none⟩) n cap;have r7:Boxed (((W.drew.setCell ⟨w.heap.size+1,0,none⟩<|aa ((x.val:Nat):Int)).setCell ⟨w.heap.size+1+1,0,none⟩<|aa (((x.val+1)%n:Nat):Int)).setCell ⟨w.heap.size+1+1+1,0,none⟩<|.slice (some ⟨g,0,none⟩) n cap) (w.heap.size+1+1) 3 (aa (((x.val+1)%n:Nat):Int)):=(Boxed.set (aa (((x.val+1)%n:Nat):Int))<|Boxed.other (B':=w.heap.size+1) (show Boxed W.drew (w.heap.size+1+1) 3 (aa 0) from u) (by omega)<|aa ((x.val:Nat):Int)).other (B':=w.heap.size+1+1+1) (by omega)<|.slice (some ⟨g,0,none⟩) n cap;have r8:Boxed (((W.drew.setCell ⟨w.heap.size+1,0,none⟩<|aa ((x.val:Nat):Int)).setCell ⟨w.heap.size+1+1,0,none⟩<|aa (((x.val+1)%n:Nat):Int)).setCell ⟨w.heap.size+1+1+1,0,none⟩<|.slice (some ⟨g,0,none⟩) n cap) (w.heap.size+1+1+1) 159 (.slice (some ⟨g,0,none⟩) n cap):=Boxed.set (.slice (some ⟨g,0,none⟩) n cap)<|(Boxed.other (B':=w.heap.size+1) (show Boxed W.drew (w.heap.size+1+1+1) 159 (.slice (some ⟨g,0,none⟩) n cap) from E) (by omega)<|aa ((x.val:Nat):Int)).other (B':=w.heap.size+1+1) (by omega)<|aa (((x.val+1)%n:Nat):Int);have ro:=(((show World.ownsRow W.drew w.heap.size 4 1 (.slice (some ⟨g,0,none⟩) n cap) n (lf.map .bool) from F).kept (grownBy_setCell' W.drew (w.heap.size+1)<|aa ((x.val:Nat):Int))<|.inr<|λe=>by simp only[Value.ownBlock,Option.some.injEq] at e;omega).kept (grownBy_setCell' (W.drew.setCell ⟨w.heap.size+1,0,none⟩<|aa ((x.val:Nat):Int)) (w.heap.size+1+1)<|aa (((x.val+1)%n:Nat):Int))<|.inr<|λe=>by simp only[Value.ownBlock,Option.some.injEq] at e;omega).kept (grownBy_setCell' ((W.drew.setCell ⟨w.heap.size+1,0,none⟩<|aa ((x.val:Nat):Int)).setCell ⟨w.heap.size+1+1,0,none⟩<|aa (((x.val+1)%n:Nat):Int)) (w.heap.size+1+1+1)<|.slice (some ⟨g,0,none⟩) n cap)<|.inr<|λe=>by simp only[Value.ownBlock,Option.some.injEq] at e;omega
    have rb:=((m.drew.setCell (p:=⟨w.heap.size+1,0,none⟩) (by show w.heap.size<=w.heap.size+1;omega)<|aa ((x.val:Nat):Int)).setCell (p:=⟨w.heap.size+1+1,0,none⟩) (by show w.heap.size<=w.heap.size+1+1;omega)<|aa (((x.val+1)%n:Nat):Int)).setCell (p:=⟨w.heap.size+1+1+1,0,none⟩) (by show w.heap.size<=w.heap.size+1+1+1;omega)<|.slice (some ⟨g,0,none⟩) n cap;have rk:KeepsOthers W (((W.drew.setCell ⟨w.heap.size+1,0,none⟩<|aa ((x.val:Nat):Int)).setCell ⟨w.heap.size+1+1,0,none⟩<|aa (((x.val+1)%n:Nat):Int)).setCell ⟨w.heap.size+1+1+1,0,none⟩<|.slice (some ⟨g,0,none⟩) n cap):=(((KeepsOthers.drew W).trans<|KeepsOthers.setCell _ _ _).trans<|KeepsOthers.setCell _ _ _).trans<|KeepsOthers.setCell _ _ _;exact⟨rk,⟨rfl,x,lf,by simpa using s.out,r6,r7,r8,ro⟩,rb⟩
 case done =>
  rintro D ys W hD rfl ⟨⟨lf,j,q3,t,u,E,q9,F,qs⟩,m⟩ d;have y6:=t.cell;have y7:=u.cell;have O:=E.cell;have z6:=t.frozen;have z7:=u.frozen;have z8:=E.frozen;clear h4 HC HR h2 h7 HA o3 o6 o7 o8 o9 oh on
  gi_wp2
  gi_region
  have h6:w.heap.size+1+1+1+1+1<=g:=by have:=ks.out;omega
  have Y:Boxed ((((W.setCell ⟨w.heap.size+1,0,none⟩<|aa (-1)).setCell ⟨w.heap.size+1+1,0,none⟩<|aa (h:Int)).setCell ⟨w.heap.size+1+1+1,0,none⟩<|.slice (some ⟨g,0,none⟩) n cap).drew) (w.heap.size+1) 3 (aa (-1)):=((t.set<|aa (-1)).other (B':=w.heap.size+1+1) (by omega)<|aa (h:Int)).other (B':=w.heap.size+1+1+1) (by omega)<|.slice (some ⟨g,0,none⟩) n cap;have X:Boxed ((((W.setCell ⟨w.heap.size+1,0,none⟩<|aa (-1)).setCell ⟨w.heap.size+1+1,0,none⟩<|aa (h:Int)).setCell ⟨w.heap.size+1+1+1,0,none⟩<|.slice (some ⟨g,0,none⟩) n cap).drew) (w.heap.size+1+1) 3 (aa (h:Int)):=((u.other (B':=w.heap.size+1) (by omega)<|aa (-1)).set<|aa (h:Int)).other (B':=w.heap.size+1+1+1) (by omega)<|.slice (some ⟨g,0,none⟩) n cap;have U:Boxed ((((W.setCell ⟨w.heap.size+1,0,none⟩<|aa (-1)).setCell ⟨w.heap.size+1+1,0,none⟩<|aa (h:Int)).setCell ⟨w.heap.size+1+1+1,0,none⟩<|.slice (some ⟨g,0,none⟩) n cap).drew) (w.heap.size+1+1+1) 159 (.slice (some ⟨g,0,none⟩) n cap):=((E.other (B':=w.heap.size+1) (by omega)<|aa (-1)).other (B':=w.heap.size+1+1) (by omega)<|aa (h:Int)).set<|.slice (some ⟨g,0,none⟩) n cap;have h9:=((F.kept (grownBy_setCell' W (w.heap.size+1)<|aa (-1))<|.inr<|λe=>by simp only[Value.ownBlock,Option.some.injEq] at e;omega).kept (grownBy_setCell' (W.setCell ⟨w.heap.size+1,0,none⟩<|aa (-1)) (w.heap.size+1+1)<|aa (h:Int))<|.inr<|λe=>by simp only[Value.ownBlock,Option.some.injEq] at e;omega).kept (grownBy_setCell' ((W.setCell ⟨w.heap.size+1,0,none⟩<|aa (-1)).setCell ⟨w.heap.size+1+1,0,none⟩<|aa (h:Int)) (w.heap.size+1+1+1)<|.slice (some ⟨g,0,none⟩) n cap)<|.inr<|λe=>by simp only[Value.ownBlock,Option.some.injEq] at e;omega
  have po:World.ownsRow ((((W.setCell ⟨w.heap.size+1,0,none⟩<|aa (-1)).setCell ⟨w.heap.size+1+1,0,none⟩<|aa (h:Int)).setCell ⟨w.heap.size+1+1+1,0,none⟩<|.slice (some ⟨g,0,none⟩) n cap).drew) w.heap.size 4 1 (.slice (some ⟨g,0,none⟩) n cap) n (lf.map .bool):=h9;have G:(((((W.setCell ⟨w.heap.size+1,0,none⟩<|aa (-1)).setCell ⟨w.heap.size+1+1,0,none⟩<|aa (h:Int)).setCell ⟨w.heap.size+1+1+1,0,none⟩<|.slice (some ⟨g,0,none⟩) n cap).drew)).heap[D]?=some (.deferred<|some []):=(KeepsOthers.setCell _ _ _).same D _ ((KeepsOthers.setCell _ _ _).same D _ ((KeepsOthers.setCell W ⟨w.heap.size+1,0,none⟩<|aa (-1)).same D _ d rfl) rfl) rfl;have pb:Below w.heap.size w ((((W.setCell ⟨w.heap.size+1,0,none⟩<|aa (-1)).setCell ⟨w.heap.size+1+1,0,none⟩<|aa (h:Int)).setCell ⟨w.heap.size+1+1+1,0,none⟩<|.slice (some ⟨g,0,none⟩) n cap).drew):=(((m.setCell (p:=⟨w.heap.size+1,0,none⟩) (by simp;try omega) _).setCell (p:=⟨w.heap.size+1+1,0,none⟩) (by simp;try omega) _).setCell (p:=⟨w.heap.size+1+1+1,0,none⟩) (by simp;try omega) _).drew
  gi_wp2
  generalize ((((W.setCell ⟨w.heap.size+1,0,none⟩<|aa (-1)).setCell ⟨w.heap.size+1+1,0,none⟩<|aa (h:Int)).setCell ⟨w.heap.size+1+1+1,0,none⟩<|.slice (some ⟨g,0,none⟩) n cap).drew)=W' at Y X U po G pb ⊢;refine⟨by simp,.inl ⟨_,_,rfl,run_takeDeferred G,?_⟩⟩;have H:∀r:Nat,some D=some r->∃o:Obj,W'.heap[r]?=some o/\o.isCells=false:=λr e=>by cases e;exact⟨_,G,rfl⟩
  have c6:=(DX Y (grownBy_putObj' _ D<|.deferred none) H).cell;have c7:=(DX X (grownBy_putObj' _ D<|.deferred none) H).cell;have c8:=(DX U (grownBy_putObj' _ D<|.deferred none) H).cell;have co:=QI po (grownBy_putObj' _ D<|.deferred none) H;rw[j];refine⟨NQ h (none:Option<|Fin n)<|.slice (some ⟨g,0,none⟩) n cap,?_,_,rfl,co,pb.trans<|belowK_b (w:=w) (qb _) W' D _ _ (by omega) G rfl rfl⟩;simp[results,Tryz.f143,NQ,go_sem,c6,c7,c8]
 case stop =>
  rintro D c pre W hD ⟨k,hk,rfl⟩ ⟨⟨rfl,x,lf,j,t,u,E,F⟩,m⟩ d;obtain⟨r,f⟩:=Uv (spot n h M) hk;have V:FE cs (FX (spot n h M)<|2*n) rs=(some x,lf):=by rw[f,GK,j]
  gi_wp2
  refine⟨by simp,.inl ⟨_,_,rfl,run_takeDeferred d,?_⟩⟩;have H:∀r:Nat,some D=some r->∃o:Obj,W.heap[r]?=some o/\o.isCells=false:=λr e=>by cases e;exact⟨_,d,rfl⟩
  have c6:=(DX t (grownBy_putObj' _ D<|.deferred none) H).cell;have c7:=(DX u (grownBy_putObj' _ D<|.deferred none) H).cell;have c8:=(DX E (grownBy_putObj' _ D<|.deferred none) H).cell;have co:=QI F (grownBy_putObj' _ D<|.deferred none) H;rw[V];refine⟨NQ h (some x)<|.slice (some ⟨g,0,none⟩) n cap,?_,_,rfl,co,m.trans<|belowK_b (w:=w) (qb _) W D _ _ (by omega) d rfl rfl⟩;simp[results,Tryz.f143,NQ,go_sem,c6,c7,c8]
set_option maxHeartbeats 1000000 in
def bN (x b:ce) (c0 d m n:Nat) (hand:Int) (w:d7) (c:n<=65536) (h:n=0\/m≠n) :
 Calls prog 143 #[.slice x n c0,.slice b m d,aa hand] w λe w'=>e=.returned (.tuple #[aa (-1),aa 0,.slice none 0 0])/\Below w.heap.size w w':=by
 by_cases h0:n=0
 .subst h0;clear h c
  go_enter Tryz.func143,Tryz.ntmps143
  go_wp2
  have y:Boxed (((((w.alloc<|Obj.cells #[Value.slice x 0 c0] 159).alloc<|Obj.cells #[Value.int IntKind.i64 (-1)] 3).alloc<|Obj.cells #[Value.int IntKind.i64 0] 3).alloc<|Obj.cells #[Value.slice none 0 0] 159).alloc<|Obj.cells #[Value.int IntKind.i64 0] 3) (w.heap.size+1) 3 (aa (-1)):=by
   have:=Boxed.new (w.alloc<|.cells #[.slice x 0 c0] 159) 3<|aa (-1);exact ZHF
  have z:Boxed (((((w.alloc<|Obj.cells #[Value.slice x 0 c0] 159).alloc<|Obj.cells #[Value.int IntKind.i64 (-1)] 3).alloc<|Obj.cells #[Value.int IntKind.i64 0] 3).alloc<|Obj.cells #[Value.slice none 0 0] 159).alloc<|Obj.cells #[Value.int IntKind.i64 0] 3) (w.heap.size+1+1) 3 (aa 0):=by
   have:=Boxed.new ((w.alloc<|.cells #[.slice x 0 c0] 159).alloc<|.cells #[aa (-1)] 3) 3<|aa 0;exact ZHw
  have a:Boxed (((((w.alloc<|Obj.cells #[Value.slice x 0 c0] 159).alloc<|Obj.cells #[Value.int IntKind.i64 (-1)] 3).alloc<|Obj.cells #[Value.int IntKind.i64 0] 3).alloc<|Obj.cells #[Value.slice none 0 0] 159).alloc<|Obj.cells #[Value.int IntKind.i64 0] 3) (w.heap.size+1+1+1) 159 (.slice none 0 0):=by
   have:=Boxed.new (((w.alloc<|.cells #[.slice x 0 c0] 159).alloc<|.cells #[aa (-1)] 3).alloc<|.cells #[aa 0] 3) 159<|.slice none 0 0;simp only[rE] at this;exact this.alloc _
  exact XdA
 have f:((n:Int) == 0)=false:=by simp;omega
 have g:((m:Int) != (n:Int))=true:=gg;clear h h0
 go_enter Tryz.func143,Tryz.ntmps143
 go_wp2
 have y:Boxed (((((w.alloc<|Obj.cells #[Value.slice x n c0] 159).alloc<|Obj.cells #[Value.int IntKind.i64 (-1)] 3).alloc<|Obj.cells #[Value.int IntKind.i64 0] 3).alloc<|Obj.cells #[Value.slice none 0 0] 159).alloc<|Obj.cells #[Value.int IntKind.i64 (n:Int)] 3) (w.heap.size+1) 3 (aa (-1)):=by
  have:=Boxed.new (w.alloc<|.cells #[.slice x n c0] 159) 3<|aa (-1);exact ZHF
 have z:Boxed (((((w.alloc<|Obj.cells #[Value.slice x n c0] 159).alloc<|Obj.cells #[Value.int IntKind.i64 (-1)] 3).alloc<|Obj.cells #[Value.int IntKind.i64 0] 3).alloc<|Obj.cells #[Value.slice none 0 0] 159).alloc<|Obj.cells #[Value.int IntKind.i64 (n:Int)] 3) (w.heap.size+1+1) 3 (aa 0):=by
  have:=Boxed.new ((w.alloc<|.cells #[.slice x n c0] 159).alloc<|.cells #[aa (-1)] 3) 3<|aa 0;exact ZHw
 have a:Boxed (((((w.alloc<|Obj.cells #[Value.slice x n c0] 159).alloc<|Obj.cells #[Value.int IntKind.i64 (-1)] 3).alloc<|Obj.cells #[Value.int IntKind.i64 0] 3).alloc<|Obj.cells #[Value.slice none 0 0] 159).alloc<|Obj.cells #[Value.int IntKind.i64 (n:Int)] 3) (w.heap.size+1+1+1) 159 (.slice none 0 0):=by
  have:=Boxed.new (((w.alloc<|.cells #[.slice x n c0] 159).alloc<|.cells #[aa (-1)] 3).alloc<|.cells #[aa 0] 3) 159<|.slice none 0 0;simp only[rE] at this;exact this.alloc _
 exact XdA
def VT (n h:Nat):bm:=(List.range<|2*n).map<|λi=>(h+i)%n
def XO (cs:bo):bm->bo->Option Nat×bo
 |[],l=>(none,l)
 |k::ks,l=>if cs.getD k false then (if l.getD k false then XO cs ks (l.set k false) else (some k,l)) else XO cs ks l
def NS:∀(ks:List<|Fin n) (l:bo),((FE cs ks l).1.map (·.val),(FE cs ks l).2)=XO cs (ks.map (·.val)) l
 |[],l=>rfl
 |k::ks,l=>by
  simp only[FE,XO,qG,<-sY]
  split
  .split
   .exact NS ks _
   .rfl
  .exact NS ks l
def XfF {h:Nat} (x:0<n):(FX (spot n h x)<|2*n).map (·.val)=VT n h:=by
 unfold FX VT spot;rw[rG];rfl
def OV (cs rs:bo) (hand:Int):Option Nat×bo:=if cs=[]\/rs.length≠cs.length then (none,[]) else XO cs (VT cs.length (hand%(cs.length:Int)).toNat) rs
def Yb (cs rs:bo) (hand:Int):Int:=match (OV cs rs hand).1 with|none=>-1|some k=>(k:Int)
def VP (cs rs:bo) (hand:Int):Int:=if cs=[]\/rs.length≠cs.length then 0 else match (OV cs rs hand).1 with|none=>hand%(cs.length:Int)|some k=>(((k+1)%cs.length:Nat):Int)
def bO {hand:Int} {h:Nat} (x:0<cs.length) (a:rs.length=cs.length) (z:hand%(cs.length:Int)=h) (v:d0) :
 NQ h (FE cs (FX (spot cs.length h x)<|2*cs.length) rs).1 v=.tuple #[aa<|Yb cs rs hand,aa<|VP cs rs hand,v]/\(FE cs (FX (spot cs.length h x)<|2*cs.length) rs).2=(OV cs rs hand).2:=by
 have y:¬(cs=[]\/rs.length≠cs.length):=by rintro (e|e);subst e;simp at x;exact e a
 have e:=NS (cs:=cs) (FX (spot cs.length h x)<|2*cs.length) rs;rw[XfF] at e
 have b:OV cs rs hand=XO cs (VT cs.length h) rs:=by
  unfold OV;rw[pQ y,z];rfl
 unfold Yb VP;rw[pQ y,b,<-e];generalize FE cs (FX (spot cs.length h x)<|2*cs.length) rs=r;obtain⟨o,l⟩:=r;cases o with
 |none=>rw[z];exact⟨rfl,rfl⟩
 |some k=>exact⟨rfl,rfl⟩
def XgC {P:d8} {f:FuncId}
 (q:∀(B:Nat) (i g:ce) (c0 z:Nat) (cs rs:bo) (hand:Int) (n:Nat) (w:d7) (k:n<=65536) (c:0<n) (a:cs.length=n) (N:rs.length=n) (A:(Lit.int .i64 hand).wf=true)
  (H:Rd w B i<|cs.map .bool) (L:Rd w B g<|rs.map .bool) (O:B<=w.heap.size) (h:Nat) (r:hand%(n:Int)=h),
  Calls P f #[.slice i n c0,.slice g n z,aa hand] w λe w'=>∃v,e=.returned (NQ h (FE cs (FX (spot n h c)<|2*n) rs).1 v) /\
   w'.ownsRow w.heap.size 4 1 v n ((FE cs (FX (spot n h c)<|2*n) rs).2.map .bool)/\Below w.heap.size w w')
 (no:∀(i g:ce) (c0 z m n:Nat) (hand:Int) (w:d7) (k:n<=65536) (h:n=0\/m≠n),
  Calls P f #[.slice i n c0,.slice g m z,aa hand] w λe w'=>e=.returned (.tuple #[aa (-1),aa 0,.slice none 0 0])/\Below w.heap.size w w')
 {va vb:d0} (cs rs:bo) (hand:Int) (A:(Lit.int .i64 hand).wf) (k:cs.length<=65536) :
 Df P f [va,vb,aa hand] (λw=>Ec w va D5 cs/\Ec w vb D5 rs) [] (λv:d0=>.tuple #[aa<|Yb cs rs hand,aa<|VP cs rs hand,v]) Tr (λv=>[AG v 4 D5 (OV cs rs hand).2]):=by
 intro w F M;obtain⟨D,o⟩:=F;obtain⟨a0,c0,rfl⟩:=FK D;obtain⟨t,z,rfl⟩:=FK o;by_cases a:cs=[]\/rs.length≠cs.length
 .refine (no a0 t c0 z rs.length cs.length hand w k<|by rcases a with h|h;left;subst h;rfl;exact .inr h).mono ?_;rintro e w' ⟨rfl,x⟩;have E:OV cs rs hand=(none,[]):=by unfold OV;rw[pN a]
  refine⟨.slice none 0 0,?_,T0,?_⟩
  .unfold Yb VP;rw[E,pN a]
  rw[E];have G:Keep w [] w':=⟨x.os,x.tape,x.output,x.size,λb p _=>x.block b p⟩;have J:St w [] [] w':=⟨HP.nil w',λb o=>(by cases o),G⟩;exact J.row0 4 D5 none
 have c:0<cs.length:=by
  rcases qg cs.length with h|h
  .exact absurd (.inl<|pR h) a
  exact h
 have j:rs.length=cs.length:=tY<|λh=>a<|.inr h
 have r:hand%(cs.length:Int)=((hand%(cs.length:Int)).toNat:Int):=(Int.toNat_of_nonneg<|Int.emod_nonneg _ A1).symm;have fl:∀l:bo,D5.flat l=l.map .bool:=KJ D5 Value.bool XA
 have u:=ir D;have s:=ir o;rw[fl] at u s;rw[j];refine (q w.heap.size a0 t c0 z cs rs hand cs.length w k c I j A u s (qb _) _ r).mono ?_;rintro e w' ⟨v,rfl,y,x⟩;obtain⟨K,C⟩:=bO c j r v;refine⟨v,by rw[K],T0,?_⟩;rw[C,<-fl] at y;have d:(OV cs rs hand).2.length=cs.length:=by rw[<-C,NP,j]
 rw[<-d] at y;exact Xf8 y x
def XfG {va vb:d0} (cs rs:bo) (hand:Int) (x:(Lit.int .i64 hand).wf) (z:cs.length<=65536):Df prog 143 [va,vb,aa hand] (λw=>Ec w va D5 cs/\Ec w vb D5 rs) [] (λv:d0=>.tuple #[aa<|Yb cs rs hand,aa<|VP cs rs hand,v]) Tr (λv=>[AG v 4 D5 (OV cs rs hand).2]) :=
 XgC (λB g d c0 b cs rs hand n w z c e f x y a i h j=>XX B g d c0 b cs rs hand n w z c e f x y a i h j) bN cs rs hand x z
def UK (l:bm):bf:=l.map (λk:Nat=>(k:Int))
def SU:Nat->bo->bo->Int->bm
 |0,_,_,_=>[]
 |m+1,cs,rs,hd=>match (OV cs rs hd).1 with
  |none=>[]
  |some k=>k::SU m (cs.set k false) (OV cs rs hd).2 (((k+1)%cs.length:Nat):Int)
def QJ:∀(ks:bm) (l:bo) (k:Nat),(XO cs ks l).1=some k->cs.getD k false=true
 |[],l,k,h=>wU
 |x::ks,l,k,h=>by
  unfold XO at h
  split at h
  .rename_i hc
   split at h
   .exact QJ ks _ k h
   .cases h;exact hc
  .exact QJ ks l k h
def NT (h:(OV cs rs hd).1=some k):cs.getD k false=true/\k<cs.length/\¬(cs=[]\/rs.length≠cs.length):=by
 unfold OV at h;split at h
 .cases h
 rename_i hb;have y:=QJ _ _ _ h;refine⟨y,?_,hb⟩;rcases pG k cs.length with x|x
 .exact x
 rw[sY,pH x] at y;cases y
def QK {k:Nat} (h:(OV cs rs hd).1=some k):Yb cs rs hd=(k:Int)/\VP cs rs hd=(((k+1)%cs.length:Nat):Int):=by
 have x:=(NT h).2.2;unfold Yb VP;rw[h,pQ x];exact⟨rfl,rfl⟩
def Xi8 (h:cs.getD k false):(cs.set k false).count true+1=cs.count true:=by
 induction cs generalizing k with
 |nil=>simp at h
 |cons c cs ih =>
  cases k with
  |zero=>simp at h;subst h;simp
  |succ k =>
   have:=ih (k:=k) sv;simp only[sC,List.count_cons];omega
def Xbd {m:Nat} (h:(OV cs rs hd).1=some k):SU (m+1) cs rs hd=k::SU m (cs.set k false) (OV cs rs hd).2 (VP cs rs hd):=by
 rw[(QK h).2]
 conv=>lhs;unfold SU
 rw[h]
def Xbe {m:Nat} (h:(OV cs rs hd).1=none):SU m cs rs hd=[]:=by
 cases m with
 |zero=>rfl
 |succ m=>unfold SU;rw[h]
def Xii:∀(m:Nat) (cs rs:bo) (hd:Int),cs.count true<m->SU m cs rs hd=SU (cs.count true+1) cs rs hd
 |0,cs,rs,hd,h=>J
 |m+1,cs,rs,hd,h=>by
  cases hs:(OV cs rs hd).1 with
  |none=>rw[Xbe hs,Xbe hs]
  |some k =>
   have x:=Xi8 (NT hs).1
   rw[Xbd hs,Xbd hs,Xii m _ _ _ J,<-x]
def kO (x:n<=65536) (h:0<n):(Lit.int .i64 ((k%n:Nat):Int)).wf=true:=by
 have:=qf k h;exact ZCE
def fW (h:(OV cs rs hd).1=some k) (x:cs.length<=65536):(Lit.int .i64<|VP cs rs hd).wf=true:=by
 rw[(QK h).2];exact kO x (by have:=(NT h).2.1;omega)
namespace Mo
def can (M:Mo):bo:=M.fr.map<|λf=>decide (f.st=2)&&decide (f.pins=0)
def Ov (M:Mo):bo:=M.fr.map Vw.ref
def SI (fr:List Vw) (l:bo):List Vw:=(fr.zip l).map<|λp=>{p.1 with ref:=p.2}
def OT (M:Mo):Option Vw×Mo :=
 match (OV M.can M.Ov M.hand).1 with
 |none=>(none,M)
 |some k=>(some<|M.at' k,{M with fr:=(SI M.fr (OV M.can M.Ov M.hand).2).set k Cy,hand:=VP M.can M.Ov M.hand})
end Mo
section
variable {P:d8} {n:Nat} {L:Env} {X:aU} {fn:Func} {R:Ending->aU}
end
section
variable {P:d8} {n:Nat} {L:Env} {X:aU} {Q:aB} {S:aU} {l:bv} {listed:bz} {k:Nat}
def bQ {d:Nat} (b:Fu Q) (i:Nat) (hi:l[i]?=some o) (m:Region.noSelect l.toArray) (g:Region.free .any l.toArray listed i) (e:(Region.ready .any l.toArray listed).contains i) (y:∀w,X w->S w) (hd:o.dst=some d) (f:CL l.toArray L o=some false) (j:d.blt n)
 (h:Pre n ((d,undef)::L) X<|wpAnyH P .any l.toArray Q S k<|listed.setIfInBounds i true):Pre n L X (wpAnyH P .any l.toArray Q S (k+1) listed):=λa w z x =>
 wpAnyH_take (v:=undef) (by rw[rj];exact hi) m g e (λc a w h=>b c a _ _ w h) (Or.inr ⟨CP z f,rfl⟩) (y w x)<|by
  rw[hd];exact h _ _ (z.put undef j) x
end
section
variable {P:d8} {n:Nat} {L:Env} {X:aU} {o:Oper} {α:Type} {E:Enc α} {v:d0}
end
def K7 (f:FC):Bool:=decide (f.st=2)&&decide (f.pins=0)
def bS (h:Rel S M):M.can=S.fl.map K7:=by unfold Mo.can;rw[<-h.fr,rG];rfl
def Xkn (h:Rel S M):M.Ov=S.fl.map FC.ref:=by unfold Mo.Ov;rw[<-h.fr,rG];rfl
def V8 (fl:cO) (l:bo):cO:=(fl.zip l).map<|λp=>{p.1 with ref:=p.2}
def fX (h:l.length=fl.length):(V8 fl l).length=fl.length:=by unfold V8;rw[qY,List.length_zip];omega
def XbM {b:Bool} (x:fl[i]?=some f) (h:l[i]?=some b):(V8 fl l)[i]?=some {f with ref:=b}:=by
 unfold V8;rw[qq,(List.getElem?_zip_eq_some (z:=(f,b))).2 ⟨x,h⟩];rfl
def Xko (fl:cO) (l:bo):(V8 fl l).map vw=Mo.SI (fl.map vw) l:=by
 unfold V8 Mo.SI;rw[rG,List.zip_map_left,rG];rfl
def Xij {g:FC} (h:gl[i]?=some g) (y:gl.length=fl.length):(gl.take i++fl.drop i).set i g=gl.take (i+1)++fl.drop (i+1):=by
 have hi:=(qp.1 h).1;have x:(gl.take i).length=i:=xN;rw[rJ _ _ J,x,Nat.sub_self,sH,h,pC J,rL];simp[qQ]
def fY (h:fl[i]?=some f) (x:gl.length=fl.length):(gl.take i++fl.drop i)[i]?=some f:=by
 have hi:=(qp.1 h).1;rw[pO xN,pI,re J,Nat.sub_self,pP];exact h
def QL (cs:bo):∀(ks:bm) (l:bo),(XO cs ks l).2.length=l.length
 |[],l=>rfl
 |k::ks,l=>by
  unfold XO
  split
  .split
   .rw[QL cs ks _,sI]
   .rfl
  .exact QL cs ks l
def Xbf (h:rs.length=cs.length) (x:cs≠[]):(OV cs rs hd).2.length=cs.length:=by
 unfold OV;rw[pQ (by rintro (e|e);exact x e;exact e h),QL,h]
def evV (o:Option Vw) (nv:NV):d0:=match o with
 |none=>.tuple #[aa 0,.agg NZ.c.toArray,.bool false,.bool false]
 |some f=>.tuple #[aa f.blk,.agg nv.c.toArray,.bool f.dirty,.bool true]
def Gk (h:(OV M.can M.Ov M.hand).1=none):M.OT=(none,M):=by unfold Mo.OT;rw[h]
def ED {y:Vw} (h:(OV M.can M.Ov M.hand).1=some k) (x:M.fr[k]?=some y):M.OT=(some y,{M with fr:=(Mo.SI M.fr (OV M.can M.Ov M.hand).2).set k Cy,hand:=VP M.can M.Ov M.hand}):=by unfold Mo.OT;rw[h];simp only;rw[Ls x]
def Hi (h:l.length=fr.length):(Mo.SI fr l).length=fr.length:=by unfold Mo.SI;rw[qY,List.length_zip];omega
def Fg (h:l.length=fr.length) (i:Nat):(Mo.SI fr l)[i]?=(fr[i]?).map (λf=>{f with ref:=l.getD i false}):=by
 unfold Mo.SI;rw[qq];cases hf:fr[i]? with
 |none=>rw[pH (by rw[List.length_zip];have:=List.getElem?_eq_none_iff.1 hf;omega)];rfl
 |some f =>
  have hi:=(qp.1 hf).1;have x:l[i]?=some (l.getD i false):=by simp[sY,show i<l.length by omega]
  rw[(List.getElem?_zip_eq_some (z:=(f,l.getD i false))).2 ⟨hf,x⟩];rfl
def Pc {p:Vw->Bool} (y:∀(f:Vw) (b:Bool),p {f with ref:=b}=p f):∀{fr:List Vw} {l:bo},l.length=fr.length->B8 p (Mo.SI fr l)=B8 p fr
 |[],[],_=>rfl
 |[],_::_,h=>yF
 |f::fr,[],h=>yF
 |f::fr,b::l,h=>by
  have x:=Pc y (fr:=fr) (l:=l) sv
  unfold Mo.SI B8 at x ⊢
  simp only[List.zip_cons_cons,qG,tD,y,x]
def XfH (l:M.Ok B) {k:Nat} {y:Vw} (h:(OV M.can M.Ov M.hand).1=some k) (c:M.fr[k]?=some y) (n:y.st=2) (d:(OV M.can M.Ov M.hand).2.length=M.fr.length) (b:Int):M.OT.2.find b=if b=y.blk then none else M.find b:=by
 rw[ED h c];show B8 (Oq b) ((Mo.SI M.fr (OV M.can M.Ov M.hand).2).set k Cy)=_
 have i:=Fg d;have x:Oq b Cy=false:=by unfold Oq Cy;simp
 split
 .rename_i e;refine DG<|λz o=>?_
  obtain⟨j,hj⟩:=tj.1 o;rw[tb] at hj;split at hj
  .split at hj
   .cases hj;exact x
   cases hj
  rename_i hjk;rw[i,rv] at hj;obtain⟨g,a,rfl⟩:=hj;cases hb:Oq b {g with ref:=(OV M.can M.Ov M.hand).2.getD j false} with
  |false=>rfl
  |true =>
   unfold Oq at hb;simp only[qW,Bool.or_eq_true,rA] at hb;exact absurd (l.uni k j y g c a (.inr n) hb.2<|by rw[hb.1,e]) hjk
 rename_i e;have m:(Mo.SI M.fr (OV M.can M.Ov M.hand).2)[k]?=some {y with ref:=(OV M.can M.Ov M.hand).2.getD k false}:=by rw[i,c];rfl
 rw[J6 m<|by rw[x];unfold Oq;rw[sS Zh];rfl];exact Pc (λf b=>I) d
def Rel.OT (h:Rel S M) (i:M.Ok B) {k:Nat} {f:FC} (z:(OV M.can M.Ov M.hand).1=some k) (d:S.fl[k]?=some f) (j:f.st=2) (g:(OV M.can M.Ov M.hand).2.length=M.fr.length):Rel {S with fl:=(V8 S.fl (OV M.can M.Ov M.hand).2).set k fE,at':=BY f.blk S.at',hand:=VP M.can M.Ov M.hand} M.OT.2:=by
 have a:=h.XU d;have x:=XfH i z a j g;have y:=ED z a;have c:=h.na;refine⟨?_,?_,?_,λb=>?_,?_,h.nd,h.na.sublist<|KS f.blk S.at'⟩
 .show ((V8 S.fl (OV M.can M.Ov M.hand).2).set k fE).map vw=_
  rw[y,rH,Xko,h.fr];rfl
 .rw[y];exact h.ln
 .rw[y]
 .rw[x b];by_cases e:b=f.blk
  .subst e;rw[pN<|show f.blk=(vw f).blk from rfl];show Cw f.blk (BY f.blk S.at')=_;rw[Fs c];rfl
  rw[pQ<|show ¬b=(vw f).blk from e];show Cw b (BY f.blk S.at')=_;rw[IT Zh];exact h.at' b
 rw[y];exact h.ld
def XfI {z:Nat} (v:Rel S M) (R:M.Ok B):Df prog 89 [pV z] Tr (S.H z) (λr:CS×NV=>evV M.OT.1 r.2) (λr=>Rel r.1 M.OT.2/\(∀G,Qj G S.fl->Qj G r.1.fl/\U0 G r.2)/\∀f,M.OT.1=some f->r.2.d=f.nd) (λr=>r.1.H z):=by
 intro w hE hH;refine enter (n:=105) (vs:=[pV z]) (St w (dom<|S.H z)<|CS.H z<|S) func89 I I I (St.init hH) ?_;refine Ad ?_;have y3:=R.n64;have y2:=R.n1;have x9:=v.len;refine Cr I<|Nh I<|LW I<|Ax I I I zeroValue135<|λT=>Ce NZ.c I<|Nh I<|Ak I<|Cs I<|Nh I<|Ak I<|Ad<|Cs I<|Mv 2 I<|EJ Dj I F4 I<|Lo GO 1 I<|Lq I (AM I Fx I ue)<|Lm I<|Nk<|Af<|row0 4 D5 none<|row0 4 D5 none ?_
 refine Fm (λ(i:Nat) (J:d0) (F:d0)=>[(0,pV z),(3,pV T),(6,J),(7,F),(18,S.vF),(19,aa (S.fl.length:Int)),(20,aa (i:Int))]) (λ(i:Nat) (J:d0) (F:d0)=>St w (dom<|S.H z)<|AG J 4 D5 ((S.fl.take i).map K7)::AG F 4 D5 ((S.fl.take i).map FC.ref)::Ac T 135 NZ.c::CS.H z S) (λ(i:Nat) (J:d0) (F:d0)=>i<=S.fl.length) (λ(i:Nat) (J:d0) (F:d0)=>S.fl.length-i) (0) (.slice none 0 0) (.slice none 0 0) (qc _) (Si I) Ih<|λi J F hi=>Ad ?_
 have x7:((S.fl.take i).map K7).length<=i:=jI;have x6:((S.fl.take i).map FC.ref).length<=i:=jI;refine Cr I<|Lq I (Ql I)<|Ns<|CB 21 I (λh1=>?_)<|λh1=>?_
 .obtain⟨f,D⟩:=gE S.fl i;refine Am I<|Ah<|Ks<|Af<|Cs I<|Lq I (Aw i I Fx Er I aF I I)<|Lq I (Bc i I isAgg259 Er I I aF D)<|LW I<|Ax I I I zeroValue259<|λbe=>LW I<|SW Er I (FC.one _)<|Nk ?_
  have x:((S.fl.take i).map K7)++[K7 f]=((S.fl.take<|i+1).map K7):=by rw[sH,D,qR];rfl
  have j:((S.fl.take i).map FC.ref)++[f.ref]=((S.fl.take<|i+1).map FC.ref):=by rw[sH,D,qR];rfl
  refine DP (λs=>(Ac be 259 f.c).at s) I St.drawn<|Aq 0 I uP uf<|Aq 1 I uP (AU I Ej I Z3 I I)<|Aq 2 I uP xB<|Aq 3 I uP (Qe I)<|Aq 4 I uP uf<|CB 28 I (λX=>?_)<|λX=>?_
  .have a:K7 f=decide (f.pins=0):=by unfold K7;rw[sT X,tO]
   rw[a] at x;refine Aq 5 I uP (AU I Ej I Z3 I I)<|Aq 6 I uP xB<|Aq 7 I uP (Qe I)<|Aq 8 I uP (Qy I)<|Aq 11 I uP uf<|Aq 12 I uP (AU I Ej I Z4 I I)<|Aq 13 I uP dV<|QZ 9 14 I ?_ ?_
   .refine As (sz:=1) [.tmp 32] I I I I I De Z4 I zeroValue4 I (λb1=>Ai uq<|QZ 10 14 I ?_ ?_)
    .refine AQ (Ap De De Gs I ZH6 A8<|λq=>Ba (x)<|AD<|Ae<|Ai uq<|Ay 14 I<|As (sz:=1) [.tmp 37] I I I I I De Z4 I zeroValue4 I<|λb2=>Ai xd<|BP<|Ay 15 I<|Ap De De Gs I (λ_ h=>AR kj D5 [f.ref] I I) A8<|λm=>Ba (j)<|AD<|hC ?_);exact zE
    refine As (sz:=1) [.tmp 37] I I I I I De Z4 I zeroValue4 I (λb3=>Ai xd<|BP<|Ay 10 I<|Ap De De Gs I (λ_ h=>AR Wj D5 [(decide (f.pins=0))] I I) A8<|λq=>Ba (x)<|AQ<|Ae<|Ai xd<|BP<|Ay 15 I<|Ap De De Gs I gU A8<|λm=>Ba (j)<|AQ<|hC ?_);exact zE
   refine As (sz:=1) [.tmp 37] I I I I I De Z4 I zeroValue4 I (λb4=>Ai uq<|Ay 9 I<|As (sz:=1) [.tmp 32] I I I I I De Z4 I zeroValue4 I<|λb5=>Ai xd<|BP<|Ay 10 I<|Ap De De Gs I ZH6 A8<|λq=>Ba (x)<|AD<|Ae<|Ai xd<|BP<|Ay 15 I<|Ap De De Gs I gU A8<|λm=>Ba (j)<|AQ<|hC ?_);exact zE
  have a:K7 f=false:=by unfold K7;rw[sS X,rZ]
  rw[a] at x;refine bQ uh 5 I A6 A6 A6 uP I I I<|bQ uh 6 I A6 A6 A6 uP I I I<|bQ uh 7 I A6 A6 A6 uP I I I<|Aq 8 I uP (Qz I)<|Aq 11 I uP uf<|Aq 12 I uP (AU I Ej I Z4 I I)<|Aq 13 I uP dV<|QZ 9 14 I ?_ ?_
  .refine As (sz:=1) [.tmp 32] I I I I I De Z4 I zeroValue4 I (λb6=>Ai uq<|QZ 10 14 I ?_ ?_)
   .refine AQ (Ap De De Gs I (λ_ h=>AR kj D5 [false] I I) A8<|λq=>Ba (x)<|AD<|Ae<|Ai uq<|Ay 14 I<|As (sz:=1) [.tmp 37] I I I I I De Z4 I zeroValue4 I<|λb7=>Ai xd<|BP<|Ay 15 I<|Ap De De Gs I (λ_ h=>AR kj D5 [f.ref] I I) A8<|λm=>Ba (j)<|AD<|hC ?_);exact zE
   refine As (sz:=1) [.tmp 37] I I I I I De Z4 I zeroValue4 I (λb8=>Ai xd<|BP<|Ay 10 I<|Ap De De Gs I (λ_ h=>AR Wj D5 [false] I I) A8<|λq=>Ba (x)<|AQ<|Ae<|Ai xd<|BP<|Ay 15 I<|Ap De De Gs I gU A8<|λm=>Ba (j)<|AQ<|hC ?_);exact zE
  refine As (sz:=1) [.tmp 37] I I I I I De Z4 I zeroValue4 I (λb9=>Ai uq<|Ay 9 I<|As (sz:=1) [.tmp 32] I I I I I De Z4 I zeroValue4 I<|λy1=>Ai xd<|BP<|Ay 10 I<|Ap De De Gs I (λ_ h=>AR kj D5 [false] I I) A8<|λq=>Ba (x)<|AD<|Ae<|Ai xd<|BP<|Ay 15 I<|Ap De De Gs I gU A8<|λm=>Ba (j)<|AQ<|hC ?_);exact zE
 have Z:((S.fl.take i).map K7)=M.can:=by rw[pZ A1,bS v]
 have h7:((S.fl.take i).map FC.ref)=M.Ov:=by rw[pZ A1,Xkn v]
 rw[Z,h7];have A:M.can.length=M.fr.length:=qY ..;have x5:M.Ov.length=M.fr.length:=qY ..;refine Ab I<|AP<|Aa<|Aa<|Ar<|Kt<|Cs I<|Mv 4 I<|EJ Dj I Z3 I<|Lo G3 3 I ?_;have h8:M.can≠[]:=λe=>by rw[e] at A;simp at A;omega
 obtain⟨left,u⟩:∃l,l=(OV M.can M.Ov M.hand).2:=⟨_,rfl⟩
 have x2:left.length=M.fr.length:=by rw[u,Xbf A1 h8,A]
 refine LH 47 (aa M.hand) I (by rw[v.hd])<|LW I<|AX (XfG M.can M.Ov M.hand R.hw A1) I I I call143 I (λ_ h=>⟨h.rd 0 rfl,h.rd 1 rfl⟩) ?_;intro vl _;rw[<-u];refine Mv 6 I<|Ak I<|Ad<|Ad<|Cu ((OV M.can M.Ov M.hand).1) (λC=>?_)<|λk C=>?_
 .have E:=Gk C;refine LH 10 (aa (-1)) I (by unfold Yb;rw[C])<|Cr I<|Mv 2 I<|Nk<|Sb 53 true I (I)<|Am I<|Cs I<|Lq I (AS NZ.c I I uX)<|Nh I<|BP<|LW I<|SW AK I Nc<|Nh I<|Ak I<|Al<|Ag<|AD<|Ae<|Xo ?_;exact Gd I (id I) wW (id I) (id I)<|λ_ h=>⟨(S,NZ),by rw[E];rfl,⟨by rw[E];exact v,λG U=>⟨U,U0.zero _⟩,λf hf=>by rw[E] at hf;cases hf⟩,h.drop⟩
 obtain⟨K,y4,_⟩:=NT C;have h5:k<S.fl.length:=A1;obtain⟨f,o⟩:∃f,S.fl[k]?=some f:=⟨_,pE h5⟩
 have Y:=v.XU o;have E:=ED C Y
 have a:K7 f=true:=by
  rw[bS v,sY,qq,o] at K;exact K
 have h4:f.st=2/\f.pins=0:=by unfold K7 at a;simpa using a
 obtain⟨x1,x8⟩:=QK C;refine LH 10 (aa (k:Int)) I (by rw[x1])<|Cr I<|Mv 2 I<|Nk<|Sf 53 I A1<|Ab I<|Ah<|Ks<|Cs I<|Mv 2 I<|EJ Dj I F4 I<|Lo GO 4 I<|Lq I (AM I Fx I Yp)<|uG ?_;have L:left.length=S.fl.length:=A1;have y:=fX L;refine Xo ?_;refine Bm (λ(i:Nat)=>[(0,pV z),(3,pV T),(10,aa (k:Int)),(11,aa<|VP M.can M.Ov M.hand),(12,vl),(59,aa (S.fl.length:Int)),(60,aa (i:Int))]) (λ(i:Nat)=>St w (dom<|S.H z)<|AG vl 4 D5 left::Ac T 135 NZ.c::Ac z 257 (S).cells::AG (S).vF 259 FC.enc ((V8 S.fl left).take i++S.fl.drop i)::D1 (S).bA kI kI (S).at'::D1 (S).bL kI vS (S).ld::AG (S).vL 277 Wn.enc (S).ln::(S).rows) (λ(i:Nat)=>i<=S.fl.length) (λ(i:Nat)=>S.fl.length-i) (0) (qc _) (Si I) Ih<|λi hi=>Ad ?_
 have x4:((V8 S.fl left).take i++S.fl.drop i).length=S.fl.length:=by rw[pK,pI,pJ];omega
 refine Cr I<|Lq I (Ql I)<|Ns<|CB 61 I (λh3=>?_)<|λh3=>?_
 .refine Am I (Ah<|Ks<|Af<|Cs I<|Lm I<|Ak I ?_);obtain⟨g,N⟩:=gE S.fl i;obtain⟨lb,t⟩:∃b,left[i]?=some b:=⟨_,pE A1⟩
  have h9:=fY (gl:=V8 S.fl left) N y;have x3:=Xij (fl:=S.fl) (XbM N t) y;refine LZ (rg 12) 511758 (λs=>(Ac z 257 S.cells).at s/\Ec s vl D5 left/\Ec s S.vF FC.enc ((V8 S.fl left).take i++S.fl.drop i)) I St.drawn (λ_ h=>⟨h.at 2 rfl,h.rd 0 rfl,h.rd 3 rfl⟩)<|Md 2 I<|Ht Dj I F4 I<|Dq I (Aj I GO I uO I)<|Md 3 I<|Dq I (Aw i I De Z4 I wV I I)<|Dq I (AO i 0 I G4 I I wV t I)<|KC I<|OC I I (Aw i I Fx Er I yp I I)<|KC I<|OC I I (AU I Ej I Z4 I I)<|BP<|KC I<|DR i 4 (({g with ref:=lb}:FC)) I I Z4 I I I h9 A2 I<|AN<|Au<|Kt<|Cr I<|Lq I (Qi I)<|Lm I<|AE<|Ba x3<|Pm [1,1,1] I ?_;exact vV
 have P:((V8 S.fl left).take i++S.fl.drop i)=V8 S.fl left:=by rw[pZ A1,List.drop_eq_nil_of_le A1,sG]
 rw[P];obtain⟨lb,t⟩:∃b,left[k]?=some b:=⟨_,pE A1⟩
 have h6:=XbM o t;refine Ab I<|AP<|Aa<|Aa<|Ar<|Kt<|Cs I<|Mv 2 I<|EJ Dj I F4 I<|Lo GO 2 I<|Lm I<|Lq I (Aw k I Fx Er I yp I I)<|Lq I (Bc k I isAgg259 Er I I yp h6)<|LW I<|Ax I I I zeroValue259<|λbg=>LW I<|SW Er I (FC.one _)<|Ns<|D8 [(0,O),(1,O),(2,O),(3,O),(4,O),(5,O),(7,O),(6,V),(8,O),(9,V),(10,W),(11,W),(12,W)] [10,11,12] [(_,O),(_,O),(_,O),(_,O),(_,O),(_,O),(_,O),(_,V),(_,O),(_,V),(_,W),(_,W),(_,W)] (λs=>(Ac z 257 S.cells).at s/\∃l:cO,l.length=S.fl.length/\Ec s S.vF FC.enc l) rfl rfl rfl rfl St.drawn ZDB (Md 2 I<|Ht Dj I F4 I<|Dq I (Aj I GO I uO I)<|Md 3 I<|MX I<|E1 JJ I call144 Tt<|λ_ _=>Ai ZDB<|Dq I (Xbg k S.fl.length I Fx Er I uS I I A1)<|Cd<|MX I<|EF k fE I I Er I I I I A1<|Ai (λ_ h=>⟨h.at 4 rfl,_,by first|exact y|(rw[sI];exact y),h.rd 0 rfl⟩)<|KC I<|OC I I zQ<|KC I<|OC I I (AU I Dj I Z3 I I)<|Cd<|KC I<|AB I I Z3 I I I (rO I)<|Ce ({S with fl:=(V8 S.fl left).set k fE,hand:=VP M.can M.Ov M.hand}:CS).cells I<|AN<|Ks<|Pm [2,2,2] I ?_)
 refine LZ (rg 7) 1458 _ I St.drawn Ih<|Md 2 I<|Ht Dj I ZW I<|Dq I (Aj I isAgg89 I Uu I)<|Ht Ej I Z3 I<|Dq I X9<|B7<|KC I<|IV f.blk I I ZU LY I I<|AN<|Ks<|LZ (rg 10) 54675 (λs=>(Ac bg 259 ({f with ref:=lb}:FC).c).at s) I St.drawn uq<|Ht Ej I Z3 I<|Dq I xB<|Ht Ej I AK I<|Dq I (AH f.nv.c I AV AK I Ih (I)<|I)<|Ht Ej I Z4 I<|Dq I dV<|Sz I<|BP<|MX I<|SW AK I Nc ?_;refine Ai xd<|KC I<|OC I I uW<|KC I<|OC I I uW<|AN<|Kt<|Al<|AQ<|Ae<|AQ<|Ae<|Pm [0,1,1] I<|Gd I (id I) wW (id I) (id I) ?_;refine λ_ h=>⟨(({S with fl:=(V8 S.fl left).set k fE,at':=BY f.blk S.at',hand:=VP M.can M.Ov M.hand}:CS),f.nv),by rw[E];rfl,⟨by rw[u];exact v.OT R C o h4.1 (by rw[<-u];exact x2),λG U=>⟨?_,U f<|ry o⟩,λg Q=>?_⟩,h.drop⟩
 .refine Qj.set (λg Q=>?_) (U0.zero _);unfold V8 at Q;obtain⟨p,hp,rfl⟩:=qj.1 Q;exact U p.1 (List.of_mem_zip hp).1
 rw[E] at Q;cases Q;rfl
def kR (c:M.Ok B) {k:Nat} (b:(OV M.can M.Ov M.hand).1=some k):∃y,M.fr[k]?=some y/\y.st=2/\y.pins=0:=by
 obtain⟨h,z,_⟩:=NT b;have a:M.can.length=M.fr.length:=qY ..;obtain⟨y,x⟩:=gE M.fr k;refine⟨y,x,?_⟩;have:M.can.getD k false=(decide (y.st=2)&&decide (y.pins=0)):=by unfold Mo.can;rw[sY,qq,x];rfl
 rw[this] at h;simpa using h
def QM (h:M.Ok B):(OV M.can M.Ov M.hand).2.length=M.fr.length:=by
 have x:M.can.length=M.fr.length:=qY ..;have y:M.Ov.length=M.fr.length:=qY ..;rw[Xbf (by rw[x,y]) (λe=>by rw[e] at x;have:=h.n1;simp at x;omega),x]