/- Part 6. -/
import Derived.Test.YtloldofjddbjoaaGreatJ5
set_option linter.all false
set_option maxHeartbeats 8000000
set_option maxRecDepth 100000
namespace Go.Proofs.YtloldofjddbjoaaGreat
open Go.Sep Go.RowKit Tryz
variable {i j:Nat} {va v vm vp:d0} {t u:d4} {k:c3} {α:Type} {x y:d5} {p q:Int} {w0 w:d7} {H:ci} {m:Ms}
def DN (nv:NV) (ms:cp) (j:J9 nv.d.es ms) (l:nv.d.es.length+ms.length<=60000):Df prog 297 [.agg nv.c.toArray,vm] (λw=>OE w nv/\Ec w vm Ms.enc ms) [] (λb:Sv×Bool=>.agg (⟨⟨b.1,nv.s.k,nv.s.p,nv.s.m⟩,{nv.d with es:=BZ nv.d.es ms}⟩:NV).c.toArray) (λb=>(ms≠[]->b.2=true)/\(b.2=false->b.1.v=nv.s.e.v/\ms=[])) (λb=>[On b.2 b.1.v 79 En.enc<|BZ nv.d.es ms]):=by
 intro w x g;obtain⟨x,hm⟩:=x;refine E0 func297 I g<|Y I<|Z I<|AT I I I I<|λo=>M nv.c I<|Z I<|Ax I I I zeroValue135<|λn=>M NZ.c I<|G<|Y I<|N Bj I RQ I<|Lo UN 1 I<|r I<|Z I<|AX (XfL nv.d.es ms j l) I I I call58 I (λ_ h=>⟨x.e.keep h A3,hm.keep h A3⟩) ?_
 intro ⟨v,y⟩ f;refine N Bj I RQ I<|Pre.fact (λ_ h=>Du<|L7 h 0 rfl (λe=>by obtain⟨a,i⟩:=f.2 e;dsimp only at a;subst a;subst i;exact x.e.keep h A3)) ?_;rintro⟨s,z⟩;dsimp only at z;subst z;exact AQ<|Z I<|AB I I RQ I I I dA<|M (⟨⟨s,nv.s.k,nv.s.p,nv.s.m⟩,{nv.d with es:=BZ nv.d.es ms}⟩:NV).c I<|G<|Y I<|U I (Cq ((⟨⟨s,nv.s.k,nv.s.p,nv.s.m⟩,{nv.d with es:=BZ nv.d.es ms}⟩:NV).c) AV AK 0 I (I)<|I) ZAo
def DT (d:Nd) (m:Ms):Nd:={d with es:=Dw d.es m}
def CM {n:Nat} {L:Env} {F:aO} {D:bm} {E:Enc α} {l:List α} (k:Pre n L (St w0 D<|AG v t E l::H) F):Pre n L (St w0 D<|[On true v t E l]++H) F:=k
def Kb (nv:NV) (m:Ms) (e:nv.d.leaf) (g:Dl nv.d.es) (z:Dl<|Dw nv.d.es m) (B:nv.d.Sm 50000):Df prog 253 [.agg nv.c.toArray,.agg m.c.toArray] (λw=>OE w nv) [] (λs:Sv=>if Gn (DT nv.d m)=true then .tuple #[.agg (⟨⟨s,nv.s.k,nv.s.p,nv.s.m⟩,DT nv.d m⟩:NV).c.toArray,.bool true] else .tuple #[.agg nv.c.toArray,.bool false]) Tr (λs=>[Ct s<|Dw nv.d.es m]):=by
 intro w f u;refine E0 func253 I u<|Y I<|Z I<|AT I I I I<|λj=>M nv.c I<|Z I<|AT I I I I<|λq=>M m.c I<|Z I<|Ax I I I zeroValue135<|λo=>M NZ.c I<|Ak I<|E ?_
 have l:(DT nv.d m).es.length<=nv.d.es.length+1:=R0 _ _;obtain⟨C,t,A,v⟩:=B;refine Ew (λ(s:Sv) (y:Nat)=>[(2,pV j),(4,pV o),(6,pV y)]) (λ(s:Sv) (y:Nat)=>St w [] [Ct s<|Dw nv.d.es m,Ac y 135 (⟨⟨s,nv.s.k,nv.s.p,nv.s.m⟩,DT nv.d m⟩:NV).c,Ac o 135 NZ.c,Ac q 154 m.c,Ac j 135 nv.c]) (λ(s:Sv) (y:Nat)=>True) ?_ ?_
 .refine DP (λr=>(Ac j 135 nv.c).at r/\(Ac q 154 m.c).at r) I St.drawn (Aq 0 I Vy X8<|Aq 3 I Vy X8<|Aq 4 I Vy (AH m.c I Ck Bi I uS (BF _) OM)<|Xcl 1 5 7 A6 I I I I I I ?_ ?_ ?_)
  .refine E1 (Fz nv e) I call270 Tt (λ_ _=>Ai Vy<|Aq 2 I Vy yH<|QZ 5 7 I ?_ ?_)
   .refine As (sz:=29) [.tmp 11] I I I I I BH Bi I zeroValue154 uM (λi=>Ai VI<|QZ 6 7 I ?_ ?_)
    .refine dH ?_;exact uV
    exact XdZ
   refine Ax I I I zeroValue135 (λy=>M NZ.c I<|Ai VI<|Ay 5 I<|As (sz:=29) [.tmp 11] I I I I I BH Bi I zeroValue154 uM<|λi=>Ai UY<|Ay 6 I<|dH ?_);exact uT
  .refine As (sz:=29) [.tmp 11] I I I I I BH Bi I zeroValue154 uM (λi=>Ai VI<|QZ 1 7 I ?_ ?_)
   .refine E1 (Fz nv e) I call270 Tt (λ_ _=>Ai VI<|Aq 2 I VI yH<|QZ 6 7 I ?_ ?_)
    .refine dH ?_;exact uV
    exact XdZ
   refine Ax I I I zeroValue135 (λy=>M NZ.c I<|Ai UY<|Ay 1 I<|E1 (Fz nv e) I call270 Tt<|λ_ _=>Ai UY<|Aq 2 I UY yH<|Ay 6 I<|Cf uK I I I I call297 I ZHH ?_);exact uR
  refine Ax I I I zeroValue135 (λy=>M NZ.c I<|Ai VI<|QZ 1 5 I ?_ ?_)
  .refine E1 (Fz nv e) I call270 Tt (λ_ _=>Ai VI<|Aq 2 I VI yH<|Ay 5 I<|As (sz:=29) [.tmp 11] I I I I I BH Bi I zeroValue154 uM<|λi=>Ai UY<|Ay 6 I<|dH ?_);exact uT
  refine As (sz:=29) [.tmp 11] I I I I I BH Bi I zeroValue154 uM (λi=>Ai UY<|Ay 1 I<|E1 (Fz nv e) I call270 Tt<|λ_ _=>Ai UY<|Aq 2 I UY yH<|Ay 6 I<|dH ?_);exact uT
 intro s y _;refine E<|Y I<|U I (Cq ((⟨⟨s,nv.s.k,nv.s.p,nv.s.m⟩,DT nv.d m⟩:NV).c) AV AK 1 I (I)<|I)<|Z I<|E1 (JK (⟨⟨s,nv.s.k,nv.s.p,nv.s.m⟩,DT nv.d m⟩:NV) e ⟨by show (Dw nv.d.es m).length<=60000;have:(Dw nv.d.es m).length<=nv.d.es.length+1:=l;omega,qM t K,qM A K,qM v K⟩) I call216 (λ_ h=>⟨h.rd 0 rfl,f.k.keep h A3,f.p.keep h A3,f.m.keep h A3⟩)<|λ_ _=>U I (Qt I)<|G<|CB 16 I (λn=>?_)<|λn=>?_
 .exact Am I<|Y I<|U I (Cq nv.c AV AK 4 I (I)<|I)<|AQ<|Z I<|SW AK I Nc<|Ak I<|Al<|Ag<|AD<|C1 I xM (id I)<|λ_ h=>⟨s,by dsimp only;rw[pQ<|by rw[show Gn (DT nv.d m)=false from n];decide],T0,h.sublist<|tA.2<|sj _⟩
 exact Ab I<|Ah<|Kt<|Y I<|U I (Cq ((⟨⟨s,nv.s.k,nv.s.p,nv.s.m⟩,DT nv.d m⟩:NV).c) AV AK 1 I (I)<|I)<|AQ<|Z I<|SW AK I Nc<|Ak I<|Al<|AD<|C1 I xM (id I)<|λ_ h=>⟨s,by dsimp only;rw[pN<|show Gn (DT nv.d m)=true from n],T0,h.sublist<|tA.2<|sj _⟩
def M3 {α:Type} (f:α->Bool) (lt:α->α->Bool) (l:List α):Nat->Bool
 |0=>match l[0]? with|some e=>f e|none=>true
 |i+1=>match l[i+1]?,l[i]? with|some e,some d=>f e&&lt d e|some e,none=>f e|none,_=>true
def GR {α:Type} (f:α->Bool) (lt:α->α->Bool) (l:List α):Bool:=(List.range l.length).all<|M3 f lt l
section
variable {α:Type} {f:α->Bool} {lt:α->α->Bool} {l:List α}
def P6 (hi:i<l.length) (h:M3 f lt l i=false):GR f lt l=false:=by
 unfold GR;rw[tM];exact⟨i,qm.2 hi,wz⟩
def P7 (h:∀i,i<l.length->M3 f lt l i=true):GR f lt l=true:=by
 unfold GR;rw[rT];exact λi hi=>h i<|qm.1 hi
def Vt {c:α} (h:l[0]?=some c):M3 f lt l 0=f c:=by unfold M3;rw[h]
def R7 {c d:α} (hi:0<i) (x:l[i]?=some c) (hd:l[i-1]?=some d):M3 f lt l i=(f c&&lt d c):=by
 cases i with
 |zero=>omega
 |succ i =>
  have h:l[i]?=some d:=hd;simp only[M3,x,h]
def Zn {c:α} (x:l[i]?=some c) (h:f c=false):M3 f lt l i=false:=by
 cases i with
 |zero=>rw[Vt x,h]
 |succ i =>
  obtain⟨d,hd⟩:∃d,l[i]?=some d:=⟨_,pE (by have:=(qp.1 x).1;omega)⟩
  rw[R7 (Nat.succ_pos i) x hd,h];rfl
def G8 (h:GR f lt l) {i:Nat} {c:α} (y:l[i]?=some c):f c=true/\∀d,0<i->l[i-1]?=some d->lt d c=true:=by
 have x:M3 f lt l i=true:=by
  unfold GR at h;rw[rT] at h;exact h i<|qm.2 (qp.1 y).1
 have z:f c=true:=by
  cases hk:f c with
  |true=>rfl
  |false=>rw[Zn y hk] at x;cases x
 refine⟨z,λd a hd=>?_⟩;rw[R7 a y hd,z] at x;simpa using x
end
def EL (l:List<|c3) (k:c3):Nat:=l.countP<|λp=>decide (Bs p k<=0)
def XgE {l:List<|c3} {p:c3} (h:l[i]?=some p):EL (l.take<|i+1) k=EL (l.take i) k+(if Bs p k<=0 then 1 else 0):=by
 unfold EL;rw[sH,h,List.countP_append];simp[List.countP_cons]
def L9 (l:List<|c3) (k:c3):EL l k<=l.length:=List.countP_le_length
def SG (l:bf) (x:Int):Option Nat:=B8 (λy=>decide (y=x)) l
def Vo (l:bf) (i:Nat):Bool:=match l[i]? with|some x=>decide (1<=x)&&(decide (x<256)&&decide (SG l x=some i))|none=>true
def ltK (a b:c3):Bool:=decide (Bs a b<0)
def Tq (ks:bf) (ps:List<|c3):Bool:=decide (2<=ks.length/\ks.length<=4/\ps.length+1=ks.length)&&((List.range ks.length).all (Vo ks)&&GR OI ltK ps)
def T1 {l:bf} (hi:i<l.length) (h:Vo l i=false):(List.range l.length).all (Vo l)=false:=by
 rw[tM];exact⟨i,qm.2 hi,wz⟩
def Xb3 {l:bf} (h:∀i,i<l.length->Vo l i=true):(List.range l.length).all (Vo l)=true:=by
 rw[rT];exact λi hi=>h i<|qm.1 hi
def iv {o:Option Nat} {i:Nat}:(io o=(i:Int))↔o=some i:=by
 cases o with
 |none=>exact⟨λh=>by simp only[io] at h;omega,λh=>wU⟩
 |some j=>simp only[io,Option.some.injEq];omega
def R8 (l:bf) (x:Int) (k:l.length<=65536):Df prog 157 [va,aa x] (λw=>Ec w va ds l) [] (λ_:Unit=>aa<|io<|SG l x) Tr (λ_=>[]):=by
 intro w c j;refine E0 func157 I j<|lZ ?_;refine Bm (λ(i:Nat)=>[(0,va),(1,aa x),(7,aa (l.length:Int)),(8,aa (i:Int))]) (λ(i:Nat)=>St w [] []) (λ(i:Nat)=>i<=l.length/\∀z∈l.take i,decide (z=x)=false) (λ(i:Nat)=>l.length-i) (0) ⟨qc _,A3⟩ (Si I) Ih<|λi f=>E ?_
 obtain⟨hi,a⟩:=f;refine Cr I<|U I (Ql I)<|Ns<|B 9 I (λg=>?_)<|λg=>?_
 .obtain⟨y,d⟩:=gE l i;refine Am I<|Ah<|Ks<|Af<|Y I<|r I<|A I<|Y I<|C 3 I<|U I vg<|U I (AO i 0 I G3 I I c.kp d I)<|U I (Qe I)<|G<|B 16 I (λb=>?_)<|λb=>?_
  .exact Am I<|Y I<|r I<|A I<|s<|AA<|Ag<|Ag<|AA<|Ag<|Av I I<|λ_ h=>⟨(),congrArg Ei (by unfold SG;rw[Db d (sT b.symm) a];rfl),T0,h⟩
  refine Tm ?_;exact AJ (i+1) J ⟨J,Fb a d<|sS<|λe=>b e.symm⟩ (Si I) Jx
 rw[pZ J] at a;exact Ab I<|AP<|Aa<|Aa<|Ar<|Kt<|Y I<|A I<|s<|Av I I<|λ_ h=>⟨(),congrArg Ei (by unfold SG;rw[DG a];rfl),T0,h⟩
def DK (l:bf) (x:Int) (y:l.length<=65536):Df prog 203 [va,aa x] (λw=>Ec w va ds l) [] (λ_:Unit=>aa<|io<|SG l x) Tr (λ_=>[]):=by
 intro w a z;refine E0 func203 I z ?_;exact Y I<|A I<|Y I<|C 2 I<|Z I<|E1 (R8 l x y) I call157 a.kp<|λ_ _=>A I<|s LF
def KV (l:List<|c3) (k:c3) (m:l.length<=60000):Df prog 178 [vp,.agg k.c.toArray] (λw=>Ec w vp (Kv.enc 8) l) [] (λ_:Unit=>aa (EL l k:Int)) Tr (λ_=>[]):=by
 intro w a d;refine E0 func178 I d<|Y I<|Z I<|AT I I I I<|λbk=>M k.c I<|A I<|Y I<|A I<|E<|Y I<|r I<|U I (AM I CZ I a.kp)<|uG ?_
 refine Bm (λ(i:Nat)=>[(3,pV bk),(5,aa (EL (l.take i) k:Int)),(8,vp),(9,aa (l.length:Int)),(10,aa (i:Int))]) (λ(i:Nat)=>St w [] [Ac bk 77 k.c]) (λ(i:Nat)=>i<=l.length) (λ(i:Nat)=>l.length-i) (0) (qc _) (Si I) Ih<|λi hi=>Y I<|yR ?_
 refine B 11 I (λf=>?_)<|λf=>?_
 .obtain⟨p,b⟩:=gE l i;have x:=XgE (k:=k) b;have e:=L9 (l.take i) k;have g:=tt i l;refine Am I<|Ah<|Ks<|Af<|Y I<|U I vP<|U I oH<|Z I<|Ax I I I zeroValue77<|λj=>M (Na 8).c I<|Z I<|AF I I MW I I Nw PU ZC0<|M (p).c ZFz<|G<|Y I<|U I (Cq p.c OO MW 0 I (Bq _) Nw)<|U I yo<|Z I<|E1 (G6 p k) I call162 Tt<|λ_ _=>U I WJ<|G<|B 17 I (λz=>?_)<|λz=>?_
  .rw[pN z] at x;refine Am I<|Cr I<|r I<|U I (Qi I)<|Nh I<|AE<|hJ ?_;exact AJ (i+1) J J (Sub.cons I<|Sub.RJ I Uw<|Si I) Jx
  rw[pQ z] at x;refine WG ?_;exact AJ (i+1) J J (Sub.cons I<|Sub.RJ I zc<|Si I) Jx
 have y:l.take i=l:=pZ J;rw[y];exact Ab I<|AP<|Aa<|Aa<|Ar<|Kt<|Y I<|r I XF
def R9 {p:d0} (ks:bf) (ps:List<|c3) (Q:ks.length<=60000) (H:ps.length<=60000):Df prog 344 [p,vp] (λw=>Ec w p ds ks/\Ec w vp (Kv.enc 8) ps) [] (λ_:Unit=>.bool<|Tq ks ps) Tr (λ_=>[]):=by
 intro w N D;obtain⟨g,b⟩:=N;refine E0 func344 I D<|Cs I<|Ak I<|Ad<|Cs I<|Lm I<|Lq I jk<|Mv 2 I<|CB 12 I (λK=>?_)<|λK=>?_
 .exact Mv 12 I<|Nk xX
 refine Lm I (Lq I jk<|Lq I vd<|Mv 2 I<|CB 17 I (λG=>?_)<|λG=>?_)
 .exact Mv 7 I<|Nk xX
 refine Lm I (Lq I (AM I CZ I b.kp)<|Lm I<|Lq I jk<|Lq I yw<|Mv 2 I<|Nk<|CB 24 I (λO=>?_)<|λO=>?_)
 .exact xX
 refine Ab I (Ah<|Ks<|Cs I<|Lm I<|Lq I jk<|uG ?_);have n:decide (2<=ks.length/\ks.length<=4/\ps.length+1=ks.length)=true:=sT A1;refine Bm (λ(i:Nat)=>[(0,p),(1,vp),(25,p),(26,aa (ks.length:Int)),(27,aa (i:Int))]) (λ(i:Nat)=>St w [] []) (λ(i:Nat)=>i<=ks.length/\∀j,j<i->Vo ks j=true) (λ(i:Nat)=>ks.length-i) (0) gy (Si I) Ih<|λi s=>Ad ?_
 obtain⟨hi,hj⟩:=s;refine Cr I<|Lq I (Ql I)<|Ns<|CB 28 I (λE=>?_)<|λE=>?_
 .obtain⟨x,m⟩:=gE ks i;have y:=(qp.1 m).1;refine Am I<|Ah<|Ks<|Af<|Cs I<|Lm I<|Lq I (Aw i I KI Z3 I g.kp I I)<|Lq I (AO i 0 I G3 I I g.kp m I)<|Nh I<|Ak I<|Cs I<|Mv 3 I<|CB 34 I (λF=>?_)<|λF=>?_
  .exact Mv 10 I<|Nk<|Am I<|Cs I<|Ak I<|Al<|AA<|Ag<|Ag<|AA<|Ag<|Av I I<|λ_ h=>⟨(),congrArg Eb (by unfold Tq;rw[T1 y<|by unfold Vo;rw[m];simp only[sS (show ¬1<=x by omega),rZ];try simp];simp),T0,h⟩
  refine Mv 4 I (CB 38 I (λC=>?_)<|λC=>?_)
  .exact Mv 6 I<|Nk<|Am I<|Cs I<|Ak I<|Al<|AA<|Ag<|Ag<|AA<|Ag<|Av I I<|λ_ h=>⟨(),congrArg Eb (by unfold Tq;rw[T1 y<|by unfold Vo;rw[m];simp only[sS (show ¬x<256 by omega),rZ,tu];try simp];simp),T0,h⟩
  refine Mv 2 I (LW I<|E1 (DK ks x A1) I call203 g.kp<|λ_ _=>Lm I<|Mv 2 I<|Nk<|CB 44 I (λB=>?_)<|λB=>?_)
  .exact Am I<|Cs I<|Ak I<|Al<|AA<|Ag<|Ag<|AA<|Ag<|Av I I<|λ_ h=>⟨(),congrArg Eb (by unfold Tq;rw[T1 y<|by unfold Vo;rw[m];simp only[sS<|show ¬SG ks x=some i from λe=>B<|iv.2 e,tu];try simp];simp),T0,h⟩
  refine Tm ?_
  exact AJ (i+1) A1 ⟨A1,λj h=>by
   rcases tN.1 h with h|rfl
   .exact hj j h
   unfold Vo;rw[m];simp only[sT (show 1<=x by omega),sT (show x<256 by omega),sT (iv.1 A1:SG ks x=some j)];rfl⟩ (Si I) Jx
 have v:=Xb3 (l:=ks) (λj h=>hj j A1);refine Ab I<|AP<|Aa<|Aa<|Ar<|Ks<|Cs I<|Lm I<|Lq I (AM I CZ I b.kp)<|uG ?_;refine Bm (λ(q:Nat)=>[(1,vp),(46,vp),(47,aa (ps.length:Int)),(48,aa (q:Int))]) (λ(q:Nat)=>St w [] []) (λ(q:Nat)=>q<=ps.length/\∀j,j<q->M3 OI ltK ps j=true) (λ(q:Nat)=>ps.length-q) (0) gy (Si I) Ih<|λq r=>Ad ?_
 obtain⟨P,k⟩:=r;refine Cr I<|Lq I (Ql I)<|Ns<|CB 49 I (λL=>?_)<|λL=>?_
 .obtain⟨c,o⟩:=gE ps q;have y:=(qp.1 o).1;refine Am I<|Ah<|Ks<|Af<|Cs I<|Lm I<|Lq I (Aw q I CZ MW I b.kp I I)<|Lq I (Bc q I OO MW I I b.kp o)<|LW I<|Ax I I I zeroValue77<|λM=>Ce (Na 8).c I<|Nh I<|LW I<|AF I I MW I I Nw PU ZC0<|Ce (c).c ZFz<|Ns<|LZ (rg 17) 1594326 (λA=>(Ac M 77 c.c).at A/\Ec A vp (Kv.enc 8) ps) I St.drawn (Hd 0 I b.kp)<|Dq I ZH9<|MX I<|E1 (Gv c) I call279 Tt<|λ_ _=>Ai (Hd 0 I b.kp)<|Md 2 I ?_
  refine CB 56 I (λz=>?_)<|λz=>?_
  .refine Md 13 I (AN<|Kt<|Am I<|Cs I<|Ak I<|Al<|AA<|Ag<|Ag<|AA<|Ag ?_);exact Av I I<|λ_ h=>⟨(),congrArg Eb (by unfold Tq;rw[P6 y<|Zn o z];simp),T0,h.oS⟩
  refine Dm I (Dq I vd<|Dm I<|CB 59 I (λJ=>?_)<|λJ=>?_)
  .obtain⟨d,hd⟩:=gE ps (q-1);have a:=R7 (f:=OI) (lt:=ltK) A1 o hd;rw[z] at a;refine Md 2 I<|Dq I yw<|Dq I (Aw (q-1) I CZ MW I uS I A1)<|Dq I (Bc (q-1) I OO MW I I uS hd)<|Dq I ZH9<|MX I<|E1 (G6 d c) I call162 Tt<|λ_ _=>Ai (Hd 0 I b.kp)<|Md 3 I<|AN<|Kt<|CB 69 I (λu=>?_)<|λu=>?_
   .exact Am I<|Cs I<|Ak I<|Al<|AA<|Ag<|Ag<|AA<|Ag<|Av I I<|λ_ h=>⟨(),congrArg Eb (by unfold Tq;rw[P6 y<|by rw[a];unfold ltK;rw[sS A1];rfl];simp),T0,h.oS⟩
   refine WG ?_
   exact AJ (q+1) A1 ⟨A1,λj h=>by
    rcases tN.1 h with h|rfl
    .exact k j h
    rw[a];unfold ltK;rw[sT A1];rfl⟩ (Si I) Jx
  have t:q=0:=by omega
  subst t;refine Md 10 I<|AN<|Kt<|WG ?_
  exact AJ (0+1) A1 ⟨A1,λj h=>by
   rcases tN.1 h with h|rfl
   .exact k j h
   rw[Vt o,z]⟩ (Si I) Jx
 exact Ab I<|AP<|Aa<|Aa<|Ar<|Kt<|Cs I<|Ak I<|Al<|Av I I<|λ_ h=>⟨(),congrArg Eb (by unfold Tq;rw[n,v,P7<|λj h=>k j A1];rfl),T0,h⟩
section
variable {P:d8} {n:Nat} {L:Env} {X:aU} {o:Oper}
def Ga (k:d6) (a b:Int):Int:=k.wrap ((BitVec.ofInt k.bits a ^^^ BitVec.ofInt k.bits b).toNat:Int)
def jz (k:d6) (a b:Int):Int:=k.wrap ((BitVec.ofInt k.bits a &&& BitVec.ofInt k.bits b).toNat:Int)
def Zo {k:d6} (z:o.op=.binOp .xor t x y u) (h:ev L x=some (.int k p)) (a:ev L y=some (.int k q)):MV P n L X o (.int k<|Ga k p q) :=
 DJ z h a<|λw _=>by rw[qC,CX];simp[binOp,Op.intBits,Ga]
def mB {k:d6} (z:o.op=.binOp .and t x y u) (h:ev L x=some (.int k p)) (a:ev L y=some (.int k q)):MV P n L X o (.int k<|jz k p q) :=
 DJ z h a<|λw _=>by rw[qC,CX];simp[binOp,Op.intBits,jz]
def Vv {k j:d6} (m:Nat) (a:o.op=.binOp .shr t x y u) (h:ev L x=some (.int k p)) (c:ev L y=some (.int j (m:Int))) (hm:m<=k.bits):MV P n L X o (.int k<|p.fdiv<|2^m) :=
 DJ a h c (λw _=>by
  rw[qC,CX]
  have z:¬((m:Int)<0):=J
  have b:min ((m:Int)).toNat k.bits=m:=by rw[rD];omega
  simp only[binOp,Op.shift,pQ z,b]
  rfl)
def Xc5 {k:d6} (b:o.op=.unOp .xor t x) (h:k.signed=false) (z:ev L x=some (.int k p)):MV P n L X o (.int k<|Ga k k.max p) :=
 MV.mk (λa=>Op.unary .xor<|a.eval x) (λa=>by simp[execOp,b])<|λa w y _=>by rw[y.eval z];simp[Op.unary,h,Op.intBits,Ga]
end
def Xb4 (z:Int):IntKind.u8.wrap z=z%256:=by simp[IntKind.wrap,IntKind.signed,IntKind.bits]
def XhY (z:Int):IntKind.u32.wrap z=z%4294967296:=by simp[IntKind.wrap,IntKind.signed,IntKind.bits]
def mC (z:Int):z.fdiv (2^8)=z/256:=by rw[tP _ K];rfl
def XjC (a b:Int):0<=Ga .u8 a b/\Ga .u8 a b<256:=by unfold Ga;rw[Xb4];omega
def ej (a b:Int):0<=Ga .u32 a b/\Ga .u32 a b<4294967296:=by unfold Ga;rw[XhY];omega
def Zq (x:Int):Int:=if jz .u32 x 1=1 then Ga .u32 (x.fdiv<|2^1) 3988292384 else x.fdiv (2^1)
def Zr:Nat->Int->Int
 |0,x=>x
 |k+1,x=>Zq<|Zr k x
def OW (i:Nat):Int:=Zr 8<|IntKind.u32.wrap (i:Int)
def Kc (x c:Int):Int:=Ga .u32 (OW (Ga .u8 (IntKind.u8.wrap x) c).toNat)<|x.fdiv<|2^8
def Gb (l:bf):Int:=Ga .u32 IntKind.u32.max<|l.foldl Kc<|Ga .u32 IntKind.u32.max 0
def XjD (l:bf):0<=Gb l/\Gb l<4294967296:=ej _ _
def Gp (i:Nat):bi:=((List.range i).map<|λk=>Value.int .u32<|OW k)++List.replicate (256-i) (Value.int .u32 0)
def Dp (h:i<=256):(Gp i).length=256:=by unfold Gp;simp;omega
def Zs (h:i<256):(Gp i).set (0+i*1) (.int .u32<|OW i)=Gp (i+1):=by
 unfold Gp;have x:((List.range i).map<|λk=>Value.int .u32<|OW k).length=i:=A3;rw[show 0+i*1=i by omega,rJ _ _ J,x,Nat.sub_self,tp,qR];obtain⟨m,hm⟩:∃m,256-i=m+1:=⟨255-i,J⟩
 rw[hm,pS,rL,show 256-(i+1)=m by omega];simp
def XhZ (h:j<256):(Gp 256)[0+j*1]?=some (.int .u32<|OW j):=by
 unfold Gp;rw[show 0+j*1=j by omega,pL gg];simp[h]
def Sa (i:Nat):∀v∈Gp i,v.oneCell'=true:=λv h=>by
 unfold Gp at h
 rcases rB.1 h with h|h
 .obtain⟨k,_,rfl⟩:=qj.1 h;rfl
 .rw[(rC.1 h).2];rfl
def XaE (x:Int):Df prog 298 [aa x] Tr [] (λ_:Unit=>.bool<|decide (1<=x/\x<=8)) Tr (λ_=>[]):=by
 intro w a z;refine E0 func298 I z<|Y I<|A I<|Y I<|C 3 I<|B 5 I (λy=>?_)<|λy=>?_
 .exact r I<|U I WJ<|U I (Qy I)<|A I ZDv
 exact C 3 I<|A I<|s<|Av I I<|λ_ h=>⟨(),congrArg Eb (Xef).symm,T0,h⟩
def I0 (zs:bf) (z:Int) (k:Nat) (b:1<=k) (j:k<=8) (l:zs.length<=60000):Df prog 274 [va,am z,aa (k:Int)] (λw=>Ec w va dt zs) [] (λv:d0=>v) Tr (λv=>[AG v 5 dt<|zs++le z k]):=by
 intro w e d;refine E0 func274 I d<|Y I<|A I<|Y I<|r I<|row0 5 dt none<|Z I<|B0 I I I O7 O7 Gt I I I I I e.kp (by simp only[Rp];simp;omega) gg<|λc=>A I<|E<|Y I<|r I ?_
 rw[qU];refine Z I<|E1 (XaE k) I call298 Tt<|λ_ _=>U I (Qt I)<|G<|Sb 12 false I (by rw[sT J];rfl)<|Ab I<|Ah<|Ks<|Y I<|C 2 I<|G<|Af ?_
 refine B6 (λ(i:Nat) (v:d0)=>[(1,am<|z/256^i),(7,v),(14,aa (k:Int)),(15,aa (i:Int))]) (λ(i:Nat) (v:d0)=>St w [] [AG v 5 dt<|zs++le z i]) (λ(i:Nat) (v:d0)=>i<=k) (λ(i:Nat) (v:d0)=>k-i) (0) c (qc _) (Sub.RJ I A3<|Si I) (λ_ h=>by simpa [le] using h)<|λi v hi=>E ?_
 have y:=BE i z;have y:=BE i z;have x:(z/256^i).fdiv (2^8)=z/256^(i+1):=by rw[mC,pq<|qP<|Int.pow_pos K,Int.pow_succ]
 refine Cr I<|U I (Ql I)<|Ns<|B 16 I (λb=>?_)<|λb=>?_
 .refine Am I (Ah<|Ks<|Af<|Y I<|C 2 I<|U I (KF I Y6 U5 I)<|Z I<|As (sz:=1) [.tmp 19] I I I I I O7 Z5 I zeroValue5 I<|λg=>AD<|Z I<|B0 I I I O7 O7 Gt I I I I I (λ_ h=>AR kj dt [IntKind.u8.wrap<|z/256^i] I I) (by simp only[Rp];simp;omega) gg<|λf=>A I<|Cr I<|r I<|U I (Vv 8 I I I K)<|Nh I<|AE<|Au<|Kt<|Cr I<|U I (Qi I)<|r I<|AE<|Ba (l':=zs++le z (i+1)) (by rw[Xbn,Xb4,qQ])<|AD<|Ae ?_);exact AJ ((i+1,f)) A4 A4 (Sub.RJ I (by dsimp only;rw[x])<|Si I) Jx
 have a:i=k:=by omega
 subst a;exact N0
def Sd :Df prog 310 [] Tr [] (λ_:Unit=>.agg (Gp 256).toArray) Tr (λ_=>[]):=by
 intro w f e;refine E0 func310 I e<|Y I<|Z I<|Ax I I I zeroValue395<|λy=>M (Gp 0) A6<|G<|Y I<|Z I<|Ax I I I zeroValue395<|λz=>M (Gp 0) A6<|Ns<|Y I<|uG ?_
 refine Bm (λ(i:Nat)=>[(0,pV y),(1,pV z),(5,aa (i:Int))]) (λ(i:Nat)=>St w [] [Ac z 395<|Gp i,Ac y 395<|Gp 0]) (λ(i:Nat)=>i<=256) (λ(i:Nat)=>256-i) (0) (qc _) (Si I) Ih<|λi hi=>Y I<|yR ?_
 refine B 6 I (λd=>?_)<|λd=>?_
 .refine Am I (Ah<|Ks<|Af<|Y I<|r I<|A I<|Y I<|r I<|U I (KF I U3 underlying368 I)<|A I<|E<|Y I<|uG ?_);refine Bm (λ(k:Nat)=>[(0,pV y),(1,pV z),(2,aa (i:Int)),(5,aa (i:Int)),(3,.int .u32<|Zr k<|IntKind.u32.wrap (i:Int)),(10,aa (k:Int))]) (λ(k:Nat)=>St w [] [Ac z 395<|Gp i,Ac y 395<|Gp 0]) (λ(k:Nat)=>k<=8) (λ(k:Nat)=>8-k) (0) (qc _) (Si I) Ih<|λk g=>Y I<|yR ?_
  refine B 11 I (λc=>?_)<|λc=>?_
  .refine Am I (Ah<|Ks<|Af<|Y I<|r I<|U I (mB I I I)<|U I (Qe I)<|A I<|Y I<|r I<|U I (Vv 1 I I I K)<|A I<|Y I<|r I<|G<|B 17 I (λa=>?_)<|λa=>?_)
   .refine Am I (Cr I<|r I<|U I (Zo I I I)<|Nh I<|AE<|HO ?_);exact AJ (k+1) J J (Sub.cons I<|Sub.cons I<|Sub.cons I<|Sub.cons I<|Sub.RJ I (by show _=Value.int .u32 (Zq _);unfold Zq;rw[pN a])<|Si I) Jx
   refine Tm ?_;exact AJ (k+1) J J (Sub.cons I<|Sub.cons I<|Sub.cons I<|Sub.cons I<|Sub.RJ I (by show _=Value.int .u32 (Zq _);unfold Zq;rw[pQ a])<|Si I) Jx
  have b:k=8:=by omega
  subst b;refine Ab I<|AP<|Aa<|Aa<|Ar<|Kt<|Cr I<|C 2 I<|U I (Bv i I underlying395 sizeOf368 I I I)<|Z I<|AB I I sizeOf368 I I I (by rw[Dp J];show 0+i*1<256;omega)<|M (Gp<|i+1) (Zs J)<|AE<|HO ?_;exact vV
 have x:i=256:=by omega
 subst x;exact Ab I<|AP<|Aa<|Aa<|Ar<|Kt<|Y I<|U I (Cq (Gp 256) isAgg395 sizeOf395 0 I (pZ<|by rw[pU,Dp<|qb _];exact qb _)<|Dp<|qb _)<|AD<|Z I<|AF I I sizeOf395 I I (Dp<|qb _) (Sa 256) (by rw[Dp<|qb _,Dp<|qc _];decide)<|M (Gp 256) (Sep.oR<|by rw[Dp<|qb _,Dp<|qc _])<|G<|s<|CE I (AL I isAgg395 sizeOf395 uP<|Dp<|qb _) uZ
def T2 (l:bf) (z:Int) (p:l.length<=60000):Df prog 299 [.int .u32 z,va] (λw=>Ec w va dt l) [] (λ_:Unit=>.int .u32<|Ga .u32 IntKind.u32.max<|l.foldl Kc<|Ga .u32 IntKind.u32.max z) Tr (λ_=>[]):=by
 intro w e n;refine E0 func299 I n<|Y I<|A I<|Y I<|Z I<|E1 Sd I call310 Tt<|λ_ _=>Z I<|Ax I I I zeroValue395<|λk=>M (Gp 0) A6<|Z I<|AF I I sizeOf395 I I (Dp<|qb _) (Sa 256) (by rw[Dp<|qb _,Dp<|qc _];decide)<|M (Gp 256) (Sep.oR<|by rw[Dp<|qb _,Dp<|qc _])<|G<|Y I<|r I<|U I (Xc5 I I I)<|A I<|E<|Y I<|r I<|U I (AM I O7 I e.kp)<|uG ?_
 refine Bm (λ(i:Nat)=>[(5,pV k),(6,.int .u32<|(l.take i).foldl Kc<|Ga .u32 IntKind.u32.max z),(12,va),(13,aa (l.length:Int)),(14,aa (i:Int))]) (λ(i:Nat)=>St w [] [Ac k 395<|Gp 256]) (λ(i:Nat)=>i<=l.length) (λ(i:Nat)=>l.length-i) (0) (qc _) (Si I) Ih<|λi hi=>Y I<|yR ?_
 refine B 15 I (λo=>?_)<|λo=>?_
 .obtain⟨c,m⟩:=gE l i;have a:(l.take<|i+1).foldl Kc (Ga .u32 IntKind.u32.max z)=Kc ((l.take i).foldl Kc<|Ga .u32 IntKind.u32.max z) c:=by rw[sH,m,tI];rfl
  obtain⟨x,g⟩:∃x,x=((l.take i).foldl Kc<|Ga .u32 IntKind.u32.max z):=⟨_,rfl⟩
  rw[<-g];rw[<-g] at a;have hj:=XjC (IntKind.u8.wrap x) c;obtain⟨j,b⟩:∃j:Nat,Ga .u8 (IntKind.u8.wrap x) c=(j:Int):=⟨_,(Int.toNat_of_nonneg hj.1).symm⟩
  have d:j<256:=J;have f:Kc x c=Ga .u32 (OW j) (x.fdiv<|2^8):=by unfold Kc;rw[b];rfl
  refine Am I<|Ah<|Ks<|Af<|Y I<|U I (Aw i I O7 Z5 I e.kp I I)<|U I (AO i 0 I G5 I I e.kp m I)<|A I<|Cr I<|r I<|U I (KF I underlying368 U5 I)<|r I<|U I (Zo I I I)<|U I (Bv j I underlying395 sizeOf368 I I b)<|U I (Aj I isAgg368 I uP<|XhZ d)<|r I<|U I (Vv 8 I I I K)<|U I (Zo I I I)<|Nh I<|AE<|HO ?_;exact AJ (i+1) J J (Sub.cons I<|Sub.RJ I (by rw[a,f])<|Si I) Jx
 have y:l.take i=l:=pZ J;rw[y];exact Ab I<|AP<|Aa<|Aa<|Ar<|Kt<|Y I<|r I<|U I (Xc5 I I I) XF
def XgF (l:bf) (x:l.length<=60000):Df prog 275 [va] (λw=>Ec w va dt l) [] (λ_:Unit=>.int .u32<|Gb l) Tr (λ_=>[]):=by
 intro w z y;refine E0 func275 I y ?_;exact Y I<|A I<|Y I<|r I<|Z I<|E1 (T2 l 0 x) I call299 z.kp<|λ_ _=>A I<|s LF
def Gy (l:bf) (x:l.length<=60000):Df prog 218 [va] (λw=>Ec w va dt l) [] (λv:d0=>v) Tr (λv=>[AG v 5 dt<|le (Gb l) 4]):=by
 intro w z y;have a:=XjD l;refine E0 func218 I y ?_;exact Y I<|A I<|Y I<|r I<|Z I<|E1 (XgF l x) I call275 z.kp<|λ_ _=>U I (Br (p:=Gb l) I underlying368 Y6 I<|D4)<|Z I<|AX (I0 (va:=.slice none 0 0) [] (Gb l) 4 K K<|qc _) I I I call274 I (λ_ h=>Xha _) jO
section
variable {α:Type} (f:α->c3)
def Bt (l:List α):Prop:=l.Pairwise<|λa b=>Bs (f a) (f b)<0
def DH (l:List α) (k:c3):Nat:=(l.takeWhile<|λe=>decide (Bs (f e) k<0)).length
def RP (l:List α) (k:c3):Bool:=match l[DH f l k]? with|some e=>decide (f e=k)|none=>false
end
section
variable {α:Type} {f:α->c3}
def ek {l:List α} (hi:i<=l.length) (y:∀j e,j<i->l[j]?=some e->Bs (f e) k<0) (a:∀e,l[i]?=some e->¬Bs (f e) k<0):DH f l k=i:=by
 unfold DH;have z:l.take i++l.drop i=l:=qV i l
 have b:∀e∈l.take i,decide (Bs (f e) k<0)=true:=λe h=>by
  obtain⟨j,hj⟩:=tj.1 h;rw[pM] at hj;split at hj
  .rename_i hlt;exact sT<|y j e hlt hj
  cases hj
 rw[<-z,List.takeWhile_append_of_pos b]
 have hd:(l.drop i).takeWhile (λe=>decide (Bs (f e) k<0))=[]:=by
  exact Xd2
 rw[hd,sG,pI];omega
def XaF {l:List α}:Bt f l↔∀(i j:Nat) (a b:α),i<j->l[i]?=some a->l[j]?=some b->Bs (f a) (f b)<0:=XhW
def JL {l:List α} (e:Bt f l) {k:c3} {i j:Nat} {a b:α} (d:i<=j) (z:l[i]?=some a) (x:l[j]?=some b) (h:Bs (f b) k<0):Bs (f a) k<0:=by
 exact ZAD
def I1 (l:List α) (k:c3):DH f l k<=l.length:=(tL _).length_le
def Ma {l:List α} {e:α} (hj:j<DH f l k) (h:l[j]?=some e):Bs (f e) k<0:=sW<|OU (p:=λe:α=>decide (Bs (f e) k<0)) hj h
def P8 {l:List α} (a:Bt f l) {j:Nat} {e:α} (hj:DH f l k<=j) (x:l[j]?=some e):¬Bs (f e) k<0:=λh=>by
 have y:=(qp.1 x).1
 obtain⟨d,hd⟩:=gE l<|DH f l k
 have z:=JL a hj hd x h
 have b:=IZ (p:=λe:α=>decide (Bs (f e) k<0))<|show l[(l.takeWhile (λe:α=>decide (Bs (f e) k<0))).length]?=some d from hd
 exact of_decide_eq_false b z
def P9 {l:List α} (h:RP f l k):∃e,l[DH f l k]?=some e/\f e=k:=by
 unfold RP at h;cases h2:l[DH f l k]? with
 |none=>rw[h2] at h;cases h
 |some e=>rw[h2] at h;exact⟨e,rfl,sW h⟩
end
def fD (a b:Ms):Bool:=decide (Bs a.key b.key<0)
def aS (l:cp):Bool:=GR OD fD l
def QC (l:cp):Int:=(l.map Qq).sum
def Ea (l:cp) (k:c3):Ms×Bool:=if RP Ms.key l k=true then (l.getD (DH Ms.key l k) ms0,true) else (ms0,false)
def Ek (l:cp) (m:Ms):cp:=l.take (DH Ms.key l m.key)++[if RP Ms.key l m.key=true then QE (l.getD (DH Ms.key l m.key) ms0) m else m]++l.drop (DH Ms.key l m.key+(if RP Ms.key l m.key=true then 1 else 0))
def GS (l ms:cp):cp:=ms.foldl Ek l
def KW (m:Ms):0<=Qq m/\Qq m<=35:=by
 unfold Qq;split
 .rename_i h;have y:=J3 h;split
  .rename_i hk;have x:=J4 h hk;omega
  split<;>omega
 omega
def Se {l:cp} (h:l[i]?=some m):QC (l.take<|i+1)=QC (l.take i)+Qq m:=by
 unfold QC;rw[sH,h,qR,List.sum_append];simp
def T3 (l:cp):0<=QC l/\QC l<=35*l.length:=by
 induction l with
 |nil=>simp[QC]
 |cons a l ih =>
  have:=KW a;have e:QC (a::l)=Qq a+QC l:=by simp[QC]
  rw[e,pz];omega
def Sg (l:cp) (m:Ms):(Ek l m).length<=l.length+1:=by
 unfold Ek;have:=I1 (f:=Ms.key) l m.key;simp only[pK,pI,pJ,pz,sR];omega
def XgG {l ms:cp} (h:ms[i]?=some m):GS l (ms.take<|i+1)=Ek (GS l<|ms.take i) m:=by
 unfold GS;rw[sH,h,tI];rfl
def M4:∀(ms l:cp),(GS l ms).length<=l.length+ms.length
 |[],l=>qb _
 |m::ms,l=>by
  have x:=M4 ms<|Ek l m
  have h:=Sg l m
  show (GS (Ek l m) ms).length<=_
  simp only[pz];omega
def DO {l:List α} {x d:α} (h:l[i]?=some x):l.getD i d=x:=by rw[sY,h];rfl
def KX (l ms:cp):Prop:=∀i,i<=ms.length->Bt Ms.key (GS l<|ms.take i)
def eo {lo hi mid:Nat} (h:mid=(lo+hi)/2) (x:lo+hi<=1000000):IntKind.i64.wrap (((lo:Int)+(hi:Int)).fdiv<|2^1)=(mid:Int):=by
 have e:((lo:Int)+(hi:Int)).fdiv (2^1)=(mid:Int):=by
  rw[tP _ K];omega
 rw[e];exact Co J
def Xcv {a bk:Nat} {E:Enc α} {l:List α} (h:Ec w0 v E l) (s:St w0 [a,bk] H w) (x:blk v≠a\/l=[]) (y:blk v≠bk\/l=[]):Ec w v E l :=
 h.congr<|λz=>s.keep.block _ (h.lt z)<|by
  rcases x with x|x
  .rcases y with y|y
   .simp only[pj,rX,rY,not_or];exact⟨x,y⟩
   .exact absurd y z
  .exact absurd x z
def XjE (l:cp) (k:c3) (x bk:Nat) (y:blk va≠x\/l=[]) (z:blk va≠bk\/l=[]) {i:Nat} {c:Ms} (d:l[i]?=some c) (g:l.length<=60000):Df prog 161 [aa (i:Int),pV x,pV bk] (λw=>Ec w va Ms.enc l) [Ac x 133 [va],Ac bk 77 k.c] (λ_:Unit=>.bool<|decide (0<=Bs c.key k)) Tr (λ_=>[Ac x 133 [va],Ac bk 77 k.c]):=by
 intro w b f;refine enter (n:=13) (vs:=[aa (i:Int),pV x,pV bk]) (St w [x,bk] [Ac x 133 [va],Ac bk 77 k.c]) func161 I I I (St.init f) ?_;refine E ?_;have e:=(qp.1 d).1;exact Cr I<|A I<|E<|LZ (rg 9) 13851 (λa=>(Ac x 133 [va]).at a/\(Ac bk 77 k.c).at a/\Ec a va Ms.enc l) I St.drawn ZG9<|Dq I jy<|Dm I<|Dq I (Aw i I BH Bi I Va I I)<|Ht BR I MW I<|Dq I (BK c.key.c i 2 I OO MW I I Va d K Wq)<|Dq I ZIB<|MX I<|E1 (G6 c.key k) I call162 Tt<|λ_ _=>Ai ZG9<|Dq I (Qg I) lU
def Xh0 (l:cp) (k:c3) (r:Bt Ms.key l) (x bk:Nat) (d:blk va≠x\/l=[]) (f:blk va≠bk\/l=[]) (C:l.length<=60000):Df prog 160 [aa (l.length:Int),.func (.func 161) #[] #[pV x,pV bk]] (λw=>Ec w va Ms.enc l) [Ac x 133 [va],Ac bk 77 k.c] (λ_:Unit=>aa (DH Ms.key l k:Int)) Tr (λ_=>[Ac x 133 [va],Ac bk 77 k.c]):=by
 intro w B t;refine enter (n:=26) (vs:=[aa (l.length:Int),.func (.func 161) #[] #[pV x,pV bk]]) (St w [x,bk] [Ac x 133 [va],Ac bk 77 k.c]) func160 I I I (St.init t) ?_;refine Y I<|Ak I<|Y I<|Mv 2 I<|Ak I<|E<|Af ?_;refine B6 (λ(lo:Nat) (hi:Nat)=>[(1,.func (.func 161) #[] #[pV x,pV bk]),(5,aa (lo:Int)),(6,aa (hi:Int))]) (λ(lo:Nat) (hi:Nat)=>St w [x,bk] [Ac x 133 [va],Ac bk 77 k.c]) (λ(lo:Nat) (hi:Nat)=>lo<=hi/\hi<=l.length/\(∀j e,j<lo->l[j]?=some e->Bs e.key k<0)/\∀j e,hi<=j->l[j]?=some e->¬Bs e.key k<0) (λ(lo:Nat) (hi:Nat)=>hi-lo) (0) l.length ⟨qc _,qb _,λj e h=>absurd h<|s6 _,λj e D u=>by have:=(qp.1 u).1;omega⟩ (Si I) Jx ?_;intro lo hi s;refine E<|E ?_;obtain⟨A,g,z,y⟩:=s;refine Cr I<|Mv 3 I<|G<|CB 11 I (λq=>?_)<|λq=>?_
 .obtain⟨mid,o⟩:∃mid:Nat,mid=(lo+hi)/2:=⟨_,rfl⟩
  obtain⟨c,m⟩:=gE l mid;refine Am I<|Ah<|Kt<|Af<|Y I<|Mv 2 I<|U I py<|U I (Br (p:=((lo:Int)+(hi:Int))) I U3 dI I<|D4)<|U I (Vv 1 I I I K)<|U I (KF I dI U3 I)<|Ak I<|E<|LH 7 (aa (mid:Int)) I (by rw[eo o J])<|Cr I<|Mv 2 I<|Z I<|Hr (β:=Unit) (X':=λ_=>St w _ [Ac x 133 [va],Ac bk 77 k.c]) (v:=λ_=>.bool<|decide (0<=Bs c.key k)) (p:=λ_=>True) I I I I call161 I (λE h=>Df.frame (F:=[]) (XjE l k x bk d f m C) h<|Xcv B h d f)<|λ_ _=>U I (Qt I)<|G ?_
  refine CB 21 I (λi=>?_)<|λi=>?_
  .refine Am I (gZ ?_);exact AJ ((mid+1,hi)) A4 ⟨A4,g,λj e hj b=>JL r (by dsimp only at hj;omega) b m J,y⟩ (Si I) Jx
  refine Ab I (Cr I<|Mv 2 I<|AE<|Au ?_);exact AJ ((lo,mid)) A4 ⟨A4,A4,z,λj e hj b h=>absurd (JL r hj m b h) J⟩ (Si I) Jx
 have a:DH Ms.key l k=lo:=ek J z (λe b=>y lo e J b);exact Ab I<|AP<|Aa<|Aa<|Ar<|Kt<|Y I<|Lm I<|Ak I<|Al<|Av I I<|λ_ h=>⟨(),Vl,T0,h⟩
def Xcw {E:Enc α} {l:List α} {b:Nat} (h:Ec w0 v E l) (s:St w0 [] H w) (y:b∈dom H):blk v≠b\/l=[]:=by
 by_cases hl:l=[]
 .exact .inr hl
 refine .inl (λe=>?_);have:=h.lt hl;rcases s.dom b y with x|x
 .cases x
 omega
def FA (l:cp) (k:c3) (p:Bt Ms.key l) (q:l.length<=60000):Df prog 109 [va,.agg k.c.toArray] (λw=>Ec w va Ms.enc l) [] (λ_:Unit=>.tuple #[aa (DH Ms.key l k:Int),.bool<|RP Ms.key l k]) Tr (λ_=>[]):=by
 intro w z n;obtain⟨i,hi⟩:∃i,i=DH Ms.key l k:=⟨_,rfl⟩
 have o:i<=l.length:=xU;obtain⟨a,c,rfl⟩:=FK z;refine E0 func109 I n<|Y I<|Z I<|AT I I I I<|λd=>M [.slice a l.length c] I<|Z I<|AT I I I I<|λbk=>M k.c I<|Nh I<|A I<|Y I<|Lo Fy 1 I<|U I (AM I BH I z.kp)<|U I (BU (fn:=.func 0) (us:=#[pV d,pV bk]) 161 I (vs:=#[]) Vu<|λa k=>by simp[k.eval (x:=.tmp 2) rfl,k.eval (x:=.tmp 3) rfl])<|AD<|Pre.fact (λ_ h=>Xcw z h (b:=d)<|by simp[dom,Ac])<|λg=>Pre.fact (λ_ h=>Xcw z h (b:=bk)<|by simp[dom,Ac])<|λj=>Z I<|DE (Xh0 l k p d bk g j q) I I I call160 I z.kp ?_
 intro _ _;rw[<-hi];refine A I<|E<|LZ (rg 16) 28697814 (λe=>(Ac d 133 [.slice a l.length c]).at e/\(Ac bk 77 k.c).at e/\Ec e (.slice a l.length c) Ms.enc l) I St.drawn (λ_ h=>⟨h.at 0 rfl,h.at 1 rfl,z.keep h A3⟩)<|Md 2 I<|Dq I jy<|Dq I (AM I BH I Va)<|Md 2 I<|B 16 I (λf=>?_)<|λf=>?_
 .obtain⟨c,m⟩:=gE l i;refine Dq I jy<|Dm I<|Dq I (Aw i I BH Bi I Va I I)<|Ht BR I MW I<|Dq I (BK c.key.c i 2 I OO MW I I Va m K Wq)<|Dq I ZIB<|Dq I (YW c.key k I I I)<|Md 2 I<|iU ?_;have y:RP Ms.key l k=decide (c.key=k):=by unfold RP;rw[<-hi,m]
  exact Xd4
 have y:RP Ms.key l k=false:=by unfold RP;rw[<-hi,pH J]
 exact Md 9 I<|KC I<|OC I I uW<|AN<|Kt<|s Xd4
def LA (l:cp) (j:l.length<=60000):Df prog 288 [va] (λw=>Ec w va Ms.enc l) [] (λ_:Unit=>aa<|QC l) Tr (λ_=>[]):=by
 intro w z e;refine E0 func288 I e<|Y I<|A I<|Y I<|A I<|E<|Y I<|r I<|U I (AM I BH I z.kp)<|uG ?_;refine Bm (λ(i:Nat)=>[(3,aa<|QC<|l.take i),(6,va),(7,aa (l.length:Int)),(8,aa (i:Int))]) (λ(i:Nat)=>St w [] []) (λ(i:Nat)=>i<=l.length) (λ(i:Nat)=>l.length-i) (0) (qc _) (Si I) Ih<|λi hi=>Y I<|yR ?_
 refine B 9 I (λb=>?_)<|λb=>?_
 .obtain⟨c,a⟩:=gE l i;have y:=Se a;have f:=T3<|l.take i;have d:=tt i l;have g:=KW c;refine Am I<|Ah<|Ks<|Af<|Y I<|U I iY<|U I (Bc i I Ck Bi I I z.kp a)<|Z I<|Ax I I I zeroValue154<|λk=>M ms0.c I<|Z I<|AF I I Bi I I OM RZ xa<|M (c).c yj<|G<|Cr I<|r I<|U I (Cq c.c Ck Bi 0 I (BF _) OM)<|Z I<|E1 (It c) I call306 Tt<|λ_ _=>U I py<|Nh I<|AE<|hJ ?_
  exact AJ (i+1) J J (Sub.RJ I XE<|Si I) Jx
 have x:l.take i=l:=pZ J;rw[x];exact mD
def Sh (l:cp) (r:l.length<=60000):Df prog 345 [va] (λw=>Ec w va Ms.enc l) [] (λ_:Unit=>.bool<|aS l) Tr (λ_=>[]):=by
 intro w y n;refine E0 func345 I n<|Y I<|A I<|E<|Y I<|Lm I<|U I (AM I BH I y.kp)<|uG ?_;refine Bm (λ(i:Nat)=>[(0,va),(5,va),(6,aa (l.length:Int)),(7,aa (i:Int))]) (λ(i:Nat)=>St w [] []) (λ(i:Nat)=>i<=l.length/\∀j,j<i->M3 OD fD l j=true) (λ(i:Nat)=>l.length-i) (0) gy (Si I) Ih<|λi m=>E ?_
 obtain⟨hi,hj⟩:=m;refine Cr I<|U I (Ql I)<|Ns<|B 8 I (λp=>?_)<|λp=>?_
 .obtain⟨c,z⟩:=gE l i;have a:=(qp.1 z).1;refine Am I<|Ah<|Ks<|Af<|Y I<|Lm I<|U I (Aw i I BH Bi I y.kp I I)<|U I (Bc i I Ck Bi I I y.kp z)<|Z I<|Ax I I I zeroValue154<|λq=>M ms0.c I<|Nh I<|Z I<|AF I I Bi I I OM RZ xa<|M (c).c yj<|Ns<|LZ (rg 19) 14348910 (λk=>(Ac q 154 c.c).at k/\Ec k va Ms.enc l) I St.drawn YB<|Dq I (AH c.c I Ck Bi I uO (BF _) OM)<|MX I<|E1 (Lr c) I call313 Tt<|λ_ _=>Ai YB<|Md 2 I ?_
  refine B 15 I (λb=>?_)<|λb=>?_
  .refine Md 15 I (AN<|Kt<|Am I<|Y I<|A I<|s<|AA<|Ag<|Ag ?_);exact AA<|Ag<|Av I I<|λ_ h=>⟨(),congrArg Eb (P6 a<|Zn z b).symm,T0,h.oS⟩
  refine Dm I (Dq I vd<|Dm I<|B 18 I (λo=>?_)<|λo=>?_)
  .obtain⟨d,hd⟩:=gE l (i-1);have x:=R7 (f:=OD) (lt:=fD) J z hd;rw[b] at x;refine Md 2 I<|Dq I yw<|Dq I (Aw (i-1) I BH Bi I uS I J)<|Ht BR I MW I<|Dq I (BK d.key.c (i-1) 2 I OO MW I I uS hd K Wq)<|Ht BR I MW I<|Dq I (AH c.key.c I OO MW I uO Wq Nw)<|MX I<|E1 (G6 d.key c.key) I call162 Tt<|λ_ _=>Ai YB<|Md 3 I<|AN<|Kt<|B 30 I (λg=>?_)<|λg=>?_
   .exact Am I<|Y I<|A I<|s<|AA<|Ag<|Ag<|AA<|Ag<|Av I I<|λ_ h=>⟨(),congrArg Eb (P6 a<|by rw[x];unfold fD;rw[sS J];rfl).symm,T0,h.oS⟩
   refine WG ?_
   exact AJ (i+1) J ⟨J,λj h=>by
    rcases tN.1 h with h|rfl
    .exact hj j h
    rw[x];unfold fD;rw[sT J];rfl⟩ (Si I) Jx
  have e:i=0:=by omega
  subst e;refine Md 12 I<|AN<|Kt<|WG ?_
  exact AJ (0+1) J ⟨J,λj h=>by
   rcases tN.1 h with h|rfl
   .exact hj j h
   rw[Vt z,b]⟩ (Si I) Jx
 exact Ab I<|AP<|Aa<|Aa<|Ar<|Kt<|Y I<|A I<|s<|Av I I<|λ_ h=>⟨(),congrArg Eb (P7<|λj h=>hj j J).symm,T0,h⟩
def M5 (l:cp) (k:c3) (d:Bt Ms.key l) (e:l.length<=60000):Df prog 179 [va,.agg k.c.toArray] (λw=>Ec w va Ms.enc l) [] (λ_:Unit=>.tuple #[.agg (Ea l k).1.c.toArray,.bool (Ea l k).2]) Tr (λ_=>[]):=by
 intro w z a;obtain⟨i,hi⟩:∃i,i=DH Ms.key l k:=⟨_,rfl⟩
 have b:i<=l.length:=xU;refine E0 func179 I a<|Y I<|Z I<|AT I I I I<|λbk=>M k.c I<|Z I<|Ax I I I zeroValue154<|λj=>M ms0.c I<|A I<|Y I<|r I<|U I yo<|Z I<|E1 (FA l k d e) I call109 z.kp ?_
 intro _ _;rw[<-hi];refine C 4 I<|A I<|E<|Y I<|C 2 I<|G<|B 15 I (λx=>?_)<|λx=>?_
 .exact Am I<|Y I<|U I (AS ms0.c I I uX)<|Z I<|AF I I Bi I I OM RZ uJ<|M (ms0).c vK<|A I<|s<|Ag<|C1 I xC (id I)<|λ_ h=>⟨(),by unfold Ea;rw[pQ Yn],T0,h.oS⟩
 obtain⟨c,y,f⟩:=P9 x;rw[<-hi] at y;have g:=(qp.1 y).1;exact Ab I<|Ah<|Kt<|Y I<|C 2 I<|U I iY<|U I (Bc i I Ck Bi I I z.kp y)<|Z I<|AF I I Bi I I OM RZ uJ<|M (c).c vK<|A I<|s<|C1 I xC (id I)<|λ_ h=>⟨(),by unfold Ea;rw[pN x,<-hi,DO y],T0,h.oS⟩
def XgH (l:cp) (m:Ms) (p:Bt Ms.key l) (s:l.length<=50000):Df prog 314 [va,.agg m.c.toArray] (λw=>Ec w va Ms.enc l) [] (λv:d0=>v) Tr (λv=>[AG v 154 Ms.enc<|Ek l m]):=by
 intro w x o;obtain⟨i,hi⟩:∃i,i=DH Ms.key l m.key:=⟨_,rfl⟩
 have y:i<=l.length:=xU;refine E0 func314 I o<|Y I<|Z I<|AT I I I I<|λn=>M m.c I<|A I<|Y I<|Lm I<|N BR I MW I<|U I xy<|Z I<|E1 (FA l m.key p J) I call109 x.kp ?_
 intro _ _;rw[<-hi];refine C 4 I<|A I<|Y I<|C 2 I<|U I (DC i I BH Bi I x.kp I I J)<|A I<|E<|Y I<|Lm I<|G<|Pre.PY 18 I (λa=>?_)<|λa=>?_
 .obtain⟨c,e,q⟩:=P9 a;rw[<-hi] at e;have r:=(qp.1 e).1;refine Am I<|LZ [0,1,2,3,6,7,8,9,4,5,10,11] 439587 (λd=>Ec d va Ms.enc l) I St.drawn x.kp<|Md 2 I<|Dq I (Aw i I BH Bi I Ih I I)<|Dq I (Bc i I Ck Bi I I Ih e)<|Md 2 I<|Dq I (Qi I)<|Dq I (DC (i+1) I BH Bi I Ih I I J)<|MX I<|OC I I xT<|Ai x.kp<|MX I<|E1 (Jq c m) I call180 Tt<|λ_ _=>Ai x.kp<|MX I<|AF I I Bi I I OM RZ uJ<|M ((QE c m)).c vK<|Ai x.kp<|KC I<|OC I I uW<|AN<|Ks ?_
  have z:Ek l m=l.take i++[(QE c m)]++l.drop (i+1):=by unfold Ek;rw[<-hi,a];simp only[qX];rw[DO e]
  have k:(l.take i).length<=i:=tt _ _;refine row0 154 Ms.enc none<|DP (λd=>(Ac n 154<|((QE c m)).c).at d/\Ec d va Ms.enc l) I St.drawn<|Aq 0 I zq uf<|Aq 1 I zq uf<|Aq 2 I zq (EG i I BH Bi I uS I I J)<|Aq 4 I zq (AH ((QE c m).c) I Ck Bi I uO (BF _) OM)<|Aq 7 I zq uf<|QZ 3 5 I ?_ ?_
  .exact B0 I I I BH BH DL I I I I I (λ_ h=>xc) vW gg<|λg=>Ai zq<|Ay 5 I<|As (sz:=29) [.tmp 33] I I I I I BH Bi I zeroValue154 uM<|λf=>Ai XB<|AD wc
  exact As (sz:=29) [.tmp 33] I I I I I BH Bi I zeroValue154 uM<|λf=>Ai XB<|AD<|Ay 3 I<|B0 I I I BH BH DL I I I I I (λ_ h=>xc) vW gg<|λg=>Ai XB wc
 refine Ab I (Ah<|Ks ?_);have z:Ek l m=l.take i++[m]++l.drop (i+0):=by unfold Ek;rw[<-hi,a];simp only[r5,r9]
 have k:(l.take i).length<=i:=tt _ _;refine row0 154 Ms.enc none<|DP (λd=>(Ac n 154<|(m).c).at d/\Ec d va Ms.enc l) I St.drawn<|Aq 0 I zq uf<|Aq 1 I zq uf<|Aq 2 I zq (EG i I BH Bi I uS I I J)<|Aq 4 I zq (AH m.c I Ck Bi I uO (BF _) OM)<|Aq 7 I zq uf<|QZ 3 5 I ?_ ?_
 .exact B0 I I I BH BH DL I I I I I (λ_ h=>xc) vW gg<|λg=>Ai zq<|Ay 5 I<|As (sz:=29) [.tmp 33] I I I I I BH Bi I zeroValue154 uM<|λf=>Ai XB<|AD wv
 exact As (sz:=29) [.tmp 33] I I I I I BH Bi I zeroValue154 uM<|λf=>Ai XB<|AD<|Ay 3 I<|B0 I I I BH BH DL I I I I I (λ_ h=>xc) vW gg<|λg=>Ai XB wv
def HE (n:Nd):Bool:=decide (n.es.length=0)&&(Tq n.kids n.piv&&aS n.msgs)
def G9 (n:Nd):Bool:=HE n&&decide (QC n.msgs<=205)
def Xcx (n:Nd):Bool:=decide (205<=2*QC n.msgs)
def BJ (n:Nd):Bool:=if n.leaf=true then Gn n else G9 n
def Gc (n:Nd):Bool:=!n.leaf&&Xcx n
def I2 (nv:NV) (x:nv.d.leaf=false):Df prog 258 [.agg nv.c.toArray] Tr [] (λ_:Unit=>.iface 366<|.agg nv.c.toArray) Tr (λ_=>[]):=by
 intro w a y;refine E0 func258 I y ?_;exact Y I<|Z I<|AT I I I I<|λz=>M nv.c I<|A I<|E<|Y I<|N Bj I Z4 I<|Lo G4 0 I<|G<|Sb 4 false I (x)<|Ab I<|Ah<|Kt<|Y I<|U I hG<|U rfl (Ex rfl LV uQ rfl) XF
def XeI (nv:NV) (a:nv.d.Sm 50000):Df prog 343 [.agg nv.c.toArray] (λw=>OE w nv) [] (λ_:Unit=>.bool<|HE nv.d) Tr (λ_=>[]):=by
 intro w x i;obtain⟨l,g,z,f⟩:=a;refine E0 func343 I i<|Y I<|Z I<|AT I I I I<|λj=>M nv.c I<|A I<|Y I<|N LV I RQ I<|Lo UN 0 I<|U I (AM I O8 I x.e.kp)<|C 2 I<|B 7 I (λb=>?_)<|λb=>?_
 .refine N LV I OQ I (Lo Pq 0 I<|N LV I Eo I<|Lo H6 0 I<|Z I<|E1 (R9 nv.d.kids nv.d.piv (qM g K)<|qM z K) I call344 ZIH<|λ_ _=>U I (Qy I)<|r I<|Pre.PY 14 I (λy=>?_)<|λy=>?_)
  .exact N LV I DS I<|Lo Fy 0 I<|Z I<|E1 (Sh nv.d.msgs<|qM f K) I call345 x.m.kp<|λ_ _=>U I (Qy I)<|A I<|s<|Av I I<|λ_ h=>⟨(),congrArg Eb (by unfold HE;rw[sT (show nv.d.es.length=0 by omega),y];simp),T0,h.oS⟩
  exact C 4 I<|A I<|s<|Av I I<|λ_ h=>⟨(),congrArg Eb (by unfold HE;rw[y];simp),T0,h.oS⟩
 exact C 11 I<|A I<|s<|Av I I<|λ_ h=>⟨(),congrArg Eb (by unfold HE;rw[sS<|show ¬nv.d.es.length=0 by omega];rfl),T0,h.oS⟩
def XeJ (nv:NV) (y:nv.d.Sm 50000):Df prog 342 [.agg nv.c.toArray] (λw=>OE w nv) [] (λ_:Unit=>aa<|QC nv.d.msgs) Tr (λ_=>[]):=by
 intro w x z;refine E0 func342 I z ?_;exact Y I<|Z I<|AT I I I I<|λa=>M nv.c I<|A I<|Y I<|N LV I DS I<|Lo Fy 0 I<|Z I<|E1 (LA nv.d.msgs<|qM y.m K) I call288 x.m.kp Zp
def XeK (nv:NV) (x:nv.d.leaf=false) (z:nv.d.Sm 50000):Df prog 272 [.agg nv.c.toArray] (λw=>OE w nv) [] (λ_:Unit=>.bool<|HE nv.d) Tr (λ_=>[]):=by
 intro w y a;refine E0 func272 I a ?_;exact Y I<|Z I<|AT I I I I<|λb=>M nv.c I<|A I<|Y I<|U I hG<|Z I<|E1 (I2 nv x) I call258 Tt<|λ_ _=>Z I<|L8 (XeI nv z) I I I I I uX jm Zp
def IA (nv:NV) (x:nv.d.leaf=false) (z:nv.d.Sm 50000):Df prog 199 [.agg nv.c.toArray] (λw=>OE w nv) [] (λ_:Unit=>aa<|QC nv.d.msgs) Tr (λ_=>[]):=by
 intro w y a;refine E0 func199 I a ?_;exact Y I<|Z I<|AT I I I I<|λb=>M nv.c I<|A I<|Y I<|U I hG<|Z I<|E1 (I2 nv x) I call258 Tt<|λ_ _=>Z I<|L8 (XeJ nv z) I I I I I uX jm Zp
def LD (nv:NV) (x:nv.d.leaf=false) (a:nv.d.Sm 50000):Df prog 216 [.agg nv.c.toArray] (λw=>OE w nv) [] (λ_:Unit=>.bool<|G9 nv.d) Tr (λ_=>[]):=by
 intro w z b;refine E0 func216 I b ?_;refine Y I<|Z I<|AT I I I I<|λe=>M nv.c I<|A I<|Y I<|A I<|E<|Y I<|U I hG<|Z I<|E1 (I2 nv x) I call258 Tt<|λ_ _=>G<|Af<|Y I<|U rfl (CJ rfl Ro uQ rfl K zeroValue365) (C 2 I<|G<|Ab I<|Y I<|U rfl (Cj rfl LV uQ rfl) (C 2 I<|G<|Am I<|Cr I<|Nh I<|AE<|Au<|Kt<|Y I<|U I hG<|Z I<|E1 (XeK nv x a) I call272 (λ_ h=>z.keep h)<|λ_ _=>r I ?_))
 refine Pre.PY 14 I (λy=>?_)<|λy=>?_
 .exact U I hG<|Z I<|E1 (IA nv x a) I call199 (λ_ h=>z.keep h)<|λ_ _=>r I<|U I WJ<|U I (Qy I)<|A I<|s<|Av I I<|λ_ h=>⟨(),congrArg Eb (by unfold G9;rw[y,tO]),T0,h.oS⟩
 exact C 5 I<|A I<|s<|Av I I<|λ_ h=>⟨(),congrArg Eb (by unfold G9;rw[y];rfl),T0,h.oS⟩
def HH (nv:NV) (x:nv.d.Sm 50000):Df prog 216 [.agg nv.c.toArray] (λw=>OE w nv) [] (λ_:Unit=>.bool<|BJ nv.d) Tr (λ_=>[]):=by
 unfold BJ;cases h:nv.d.leaf with
 |true=>exact JK nv h ⟨qM x.e K,qM x.k K,qM x.p K,qM x.m K⟩
 |false=>exact LD nv h x
def XeL (nv:NV) (x:nv.d.leaf=false) (y:nv.d.Sm 50000):Df prog 136 [.agg nv.c.toArray] (λw=>OE w nv) [] (λ_:Unit=>.bool<|Gc nv.d) Tr (λ_=>[]):=by
 intro w a b;have e:=T3 nv.d.msgs;have z:=y.m;refine E0 func136 I b ?_;exact Y I<|Z I<|AT I I I I<|λf=>M nv.c I<|A I<|Y I<|N Bj I Z4 I<|Lo G4 0 I<|C 2 I<|Sb 6 true I zc<|U I hG<|Z I<|E1 (IA nv x y) I call199 (λ_ h=>a.keep h)<|λ_ _=>U I Yz<|C 2 I<|A I<|s<|Av I I<|λ_ h=>⟨(),congrArg Eb (by unfold Gc Xcx;rw[x];rfl),T0,h.oS⟩
def LG (nv:NV) (x:nv.d.Sm 50000):Df prog 136 [.agg nv.c.toArray] (λw=>OE w nv) [] (λ_:Unit=>.bool<|Gc nv.d) Tr (λ_=>[]):=by
 cases h:nv.d.leaf with
 |true =>
  have e:Gc nv.d=false:=by unfold Gc;rw[h];rfl
  rw[e];exact λw _ y=>R6 nv h w trivial y
 |false=>exact XeL nv h x
def XgI (l ms:cp) (r:KX l ms) (C:l.length+ms.length<=40000):Df prog 309 [va,vm] (λw=>Ec w va Ms.enc l/\Ec w vm Ms.enc ms) [] (λb:d0×Bool=>b.1) (λb=>(ms≠[]->b.2=true)/\(b.2=false->b.1=va/\ms=[])) (λb=>[On b.2 b.1 154 Ms.enc<|GS l ms]):=by
 intro w s k;obtain⟨t,hm⟩:=s;refine E0 func309 I k<|Y I<|Ak I<|E<|Y I<|Lm I<|U I (AM I BH I hm.kp)<|Lm I<|G<|Af<|XaD va 154 Ms.enc l ?_;refine Fm (λ(i:Nat) (x:Bool) (v:d0)=>[(0,v),(7,vm),(8,aa (ms.length:Int)),(9,aa (i:Int))]) (λ(i:Nat) (x:Bool) (v:d0)=>St w [] [On x v 154 Ms.enc<|GS l<|ms.take i]) (λ(i:Nat) (x:Bool) (v:d0)=>i<=ms.length/\(0<i->x=true)/\(x=false->v=va/\i=0)) (λ(i:Nat) (x:Bool) (v:d0)=>ms.length-i) (0) false va ⟨qc _,λh=>absurd h<|Nat.lt_irrefl _,λ_=>⟨rfl,rfl⟩⟩ (Si I) Ih<|λi x v n=>E ?_
 obtain⟨hi,d,y⟩:=n;have j:=M4 (ms.take i) l;have p:=tt i ms;refine Cr I<|U I (Ql I)<|Ns<|B 10 I (λo=>?_)<|λo=>?_
 .obtain⟨m,a⟩:=gE ms i;have g:=XgG (l:=l) a;refine Am I<|Ah<|Ks<|Af<|Y I<|U I (Aw i I BH Bi I hm.kp I I)<|U I (Bc i I Ck Bi I I hm.kp a)<|Z I<|Ax I I I zeroValue154<|λB=>M ms0.c I<|Z I<|AF I I Bi I I OM RZ xa<|M (m).c yj<|G<|Cr I<|Lm I<|U I xT<|Z I<|AX (XgH (GS l<|ms.take i) m (r i hi) J) rfl rfl rfl call314 rfl (λ_ h=>L7 h 1 rfl (λe=>by obtain⟨u,q⟩:=y e;subst u;subst q;exact t.keep h A3)) (λA _=>Nh I<|AE<|Au<|Kt<|Cr I<|U I (Qi I)<|Lm I<|AE<|Xo ?_)
  exact AJ ((i+1,true,A)) (by dsimp only;omega) ⟨by dsimp only;omega,λ_=>rfl,λe=>zZ⟩ (Si I)<|λ_ h=>by dsimp only;rw[g];exact h
 exact XdM
def Fe (nv:NV) (x:nv.d.leaf=false):Df prog 270 [.agg nv.c.toArray] Tr [] (λ_:Unit=>.agg #[Pj 296,Pj 265]) Tr (λ_=>[]):=by
 intro w b z;refine E0 func270 I z ?_;exact Y I<|Z I<|AT I I I I<|λa=>M nv.c I<|Z I<|Ax I I I zeroValue363<|λe=>G<|Y I<|A I<|E<|Y I<|N Bj I Z4 I<|Lo G4 1 I<|G<|Sb 5 false I (x)<|Ab I<|Ah<|Kt<|Y I<|U I (AS [Pj 296,Pj 265] I I uX)<|U I (AS [Pj 297,Pj 267] I I uX)<|U I ZHN<|r I<|U I (Et (v:=.agg #[Pj 296,Pj 265]) I I I uX)<|Z I<|AF rfl rfl sizeOf363 rfl rfl rfl (λv y=>ZHr) wJ (M [Pj 296,Pj 265] I ZFw)
def Dr (nv:NV) (ms:cp) (j:KX nv.d.msgs ms) (l:nv.d.msgs.length+ms.length<=40000):Df prog 296 [.agg nv.c.toArray,vm] (λw=>OE w nv/\Ec w vm Ms.enc ms) [] (λb:Sv×Bool=>.agg (⟨⟨nv.s.e,nv.s.k,nv.s.p,b.1⟩,{nv.d with msgs:=GS nv.d.msgs ms}⟩:NV).c.toArray) (λb=>(ms≠[]->b.2=true)/\(b.2=false->b.1.v=nv.s.m.v/\ms=[])) (λb=>[On b.2 b.1.v 154 Ms.enc<|GS nv.d.msgs ms]):=by
 intro w x g;obtain⟨x,hm⟩:=x;refine E0 func296 I g<|Y I<|Z I<|AT I I I I<|λo=>M nv.c I<|Z I<|Ax I I I zeroValue135<|λn=>M NZ.c I<|G<|Y I<|N Bj I DS I<|Lo Fy 1 I<|r I<|Z I<|AX (XgI nv.d.msgs ms j l) I I I call309 I (λ_ h=>⟨x.m.keep h A3,hm.keep h A3⟩) ?_
 intro ⟨v,y⟩ f;refine N Bj I DS I<|Pre.fact (λ_ h=>Du<|L7 h 0 rfl (λe=>by obtain⟨a,i⟩:=f.2 e;dsimp only at a;subst a;subst i;exact x.m.keep h A3)) ?_;rintro⟨s,z⟩;dsimp only at z;subst z;exact AQ<|Z I<|AB I I DS I I I Yj<|M (⟨⟨nv.s.e,nv.s.k,nv.s.p,s⟩,{nv.d with msgs:=GS nv.d.msgs ms}⟩:NV).c I<|G<|Y I<|U I (Cq ((⟨⟨nv.s.e,nv.s.k,nv.s.p,s⟩,{nv.d with msgs:=GS nv.d.msgs ms}⟩:NV).c) AV AK 0 I (I)<|I) ZAo
def D2 (d:Nd) (m:Ms):Nd:={d with msgs:=Ek d.msgs m}
def Xeh {l:cp} (h:Bt Ms.key l) (x:Bt Ms.key<|Ek l m):KX l [m]:=λi hi=>by
 exact ZFX
def Jr (nv:NV) (m:Ms) (f:nv.d.leaf=false) (i:Bt Ms.key nv.d.msgs) (z:Bt Ms.key<|Ek nv.d.msgs m) (B:nv.d.Sm 30000):Df prog 253 [.agg nv.c.toArray,.agg m.c.toArray] (λw=>OE w nv) [] (λs:Sv=>if G9 (D2 nv.d m)=true then .tuple #[.agg (⟨⟨nv.s.e,nv.s.k,nv.s.p,s⟩,D2 nv.d m⟩:NV).c.toArray,.bool true] else .tuple #[.agg nv.c.toArray,.bool false]) Tr (λs=>[C5 s<|Ek nv.d.msgs m]):=by
 intro w g v;refine E0 func253 I v<|Y I<|Z I<|AT I I I I<|λl=>M nv.c I<|Z I<|AT I I I I<|λr=>M m.c I<|Z I<|Ax I I I zeroValue135<|λq=>M NZ.c I<|Ak I<|E ?_
 have n:(D2 nv.d m).msgs.length<=nv.d.msgs.length+1:=Sg _ _;obtain⟨C,u,A,D⟩:=B;refine Ew (λ(s:Sv) (y:Nat)=>[(2,pV l),(4,pV q),(6,pV y)]) (λ(s:Sv) (y:Nat)=>St w [] [C5 s<|Ek nv.d.msgs m,Ac y 135 (⟨⟨nv.s.e,nv.s.k,nv.s.p,s⟩,D2 nv.d m⟩:NV).c,Ac q 135 NZ.c,Ac r 154 m.c,Ac l 135 nv.c]) (λ(s:Sv) (y:Nat)=>True) ?_ ?_
 .refine DP (λt=>(Ac l 135 nv.c).at t/\(Ac r 154 m.c).at t) I St.drawn (Aq 0 I Vy X8<|Aq 3 I Vy X8<|Aq 4 I Vy (AH m.c I Ck Bi I uS (BF _) OM)<|Xcl 1 5 7 A6 I I I I I I ?_ ?_ ?_)
  .refine E1 (Fe nv f) I call270 Tt (λ_ _=>Ai Vy<|Aq 2 I Vy yH<|QZ 5 7 I ?_ ?_)
   .refine As (sz:=29) [.tmp 11] I I I I I BH Bi I zeroValue154 uM (λj=>Ai VI<|QZ 6 7 I ?_ ?_)
    .refine dG ?_;exact uV
    exact yb
   refine Ax I I I zeroValue135 (λy=>M NZ.c I<|Ai VI<|Ay 5 I<|As (sz:=29) [.tmp 11] I I I I I BH Bi I zeroValue154 uM<|λj=>Ai UY<|Ay 6 I<|dG ?_);exact uT
  .refine As (sz:=29) [.tmp 11] I I I I I BH Bi I zeroValue154 uM (λj=>Ai VI<|QZ 1 7 I ?_ ?_)
   .refine E1 (Fe nv f) I call270 Tt (λ_ _=>Ai VI<|Aq 2 I VI yH<|QZ 6 7 I ?_ ?_)
    .refine dG ?_;exact uV
    exact yb
   refine Ax I I I zeroValue135 (λy=>M NZ.c I<|Ai UY<|Ay 1 I<|E1 (Fe nv f) I call270 Tt<|λ_ _=>Ai UY<|Aq 2 I UY yH<|Ay 6 I<|Cf uD I I I I call296 I ZHI ?_);exact uR
  refine Ax I I I zeroValue135 (λy=>M NZ.c I<|Ai VI<|QZ 1 5 I ?_ ?_)
  .refine E1 (Fe nv f) I call270 Tt (λ_ _=>Ai VI<|Aq 2 I VI yH<|Ay 5 I<|As (sz:=29) [.tmp 11] I I I I I BH Bi I zeroValue154 uM<|λj=>Ai UY<|Ay 6 I<|dG ?_);exact uT
  refine As (sz:=29) [.tmp 11] I I I I I BH Bi I zeroValue154 uM (λj=>Ai UY<|Ay 1 I<|E1 (Fe nv f) I call270 Tt<|λ_ _=>Ai UY<|Aq 2 I UY yH<|Ay 6 I<|dG ?_);exact uT
 intro s y _;refine E<|Y I<|U I (Cq ((⟨⟨nv.s.e,nv.s.k,nv.s.p,s⟩,D2 nv.d m⟩:NV).c) AV AK 1 I (I)<|I)<|Z I<|E1 (LD (⟨⟨nv.s.e,nv.s.k,nv.s.p,s⟩,D2 nv.d m⟩:NV) f ⟨qM C K,qM u K,qM A K,by show (Ek nv.d.msgs m).length<=50000;have:(Ek nv.d.msgs m).length<=nv.d.msgs.length+1:=n;omega⟩) I call216 (λ_ h=>⟨g.e.keep h A3,g.k.keep h A3,g.p.keep h A3,h.rd 0 rfl⟩)<|λ_ _=>U I (Qt I)<|G<|CB 16 I (λo=>?_)<|λo=>?_
 .exact Am I<|Y I<|U I (Cq nv.c AV AK 4 I (I)<|I)<|AQ<|Z I<|SW AK I Nc<|Ak I<|Al<|Ag<|AD<|C1 I xM (id I)<|λ_ h=>⟨s,by dsimp only;rw[pQ<|by rw[show G9 (D2 nv.d m)=false from o];decide],T0,h.sublist<|tA.2<|sj _⟩
 exact Ab I<|Ah<|Kt<|Y I<|U I (Cq ((⟨⟨nv.s.e,nv.s.k,nv.s.p,s⟩,D2 nv.d m⟩:NV).c) AV AK 1 I (I)<|I)<|AQ<|Z I<|SW AK I Nc<|Ak I<|Al<|AD<|C1 I xM (id I)<|λ_ h=>⟨s,by dsimp only;rw[pN<|show G9 (D2 nv.d m)=true from o],T0,h.sublist<|tA.2<|sj _⟩
def FG (l:ct) (n:Nat):Bool:=decide (n<l.length-1)&&decide (lby (l.take n)<lby l-lby (l.take n))
def spl (l:ct):Nat:=((List.range l.length).takeWhile<|FG l).length
abbrev Ri (nv:NV):ct:=nv.d.es.take<|spl nv.d.es
abbrev Rh (nv:NV):ct:=nv.d.es.drop<|spl nv.d.es
abbrev Rk (nv:NV):c3:=(nv.d.es.getD (spl nv.d.es) en0).key
def Xcy {l:ct} (hi:i<l.length) (b:∀j,j<i->FG l j=true) (c:FG l i=false):spl l=i:=by
 unfold spl;have y:∀k,k<l.length->(List.range l.length)[k]?=some k:=λk a=>by rw[pE<|by rw[tr];exact a];simp
 have z:((List.range l.length).takeWhile<|FG l).length<=l.length:=by have:=(tL (p:=FG l) (l:=List.range l.length)).length_le;rwa[tr] at this
 rcases Nat.lt_trichotomy ((List.range l.length).takeWhile<|FG l).length i with h|h|h
 .have x:=IZ (p:=FG l) (l:=List.range l.length) (y _ J);rw[b _ h] at x;cases x
 .exact h
 have x:=OU (p:=FG l) h (y i hi);rw[c] at x;cases x
def T4 {l:ct} (x:2<=l.length) (h:0<lby l):FG l 0=true:=by
 unfold FG;rw[sT J,sT<|by simp[lby];exact h];rfl
def M6 {l:ct} {e:En} (h:l[i]?=some e):lby (l.take<|i+1)=lby (l.take i)+S9 e:=GQ h
section
variable {P:d8} {n:Nat} {L:Env} {X:aU} {fn:Func} {R:Ending->aU}
def Gd {r r' s s':ResultVar} {u x y:d0} (z:fn.results=#[r,r',s,s']) (c:E4 P L X r u) (f:E4 P L X r' v) (b:E4 P L X s x) (e:E4 P L X s' y) (d:∀w,X w->R (.returned<|.tuple #[u,v,x,y]) w):Pre n L X (bodyPost P fn R .ret):=λa w k h =>
 ⟨k.defers,_,by rw[F5,z];simp[Cc k h c,Cc k h f,Cc k h b,Cc k h e],d w h⟩