/- Part 5. -/
import Derived.Test.YtloldofjddbjoaaGreatJ4
set_option linter.all false
set_option maxHeartbeats 8000000
set_option maxRecDepth 100000
namespace Go.Proofs.YtloldofjddbjoaaGreat
open Go.Sep Go.RowKit Tryz
variable {M:Mo} {l:ct} {S:CS} {B i bc d n:Nat} {t b:Int} {α β:Type} {va:d0} {H HA:ci} {k:c3} {c e:En} {E:aU} {f:FuncId} {xs:bx} {ts:ca} {vs:bi} {w0:d7} {D:bm} {L:Env} {F:aO} {x:d5} {m:Ms}
def Xff (g:Rel S M) (m:M.Ok B) (b:Int):Df prog 177 [pV bc,aa b] Tr (S.H bc) (λd:CS=>.bool (M.Uf b).1) (λd=>Rel d (M.Uf b).2/\∀G,Qj G S.fl->Qj G d.fl) (λd=>d.H bc):=by
 intro w F v;refine enter (n:=25) (vs:=[pV bc,aa b]) (St w (dom<|S.H bc)<|CS.H bc<|S) func177 I I I (St.init v) ?_;refine Y I<|Ak I<|Y I<|Mv 2 I<|Z I<|E1 (F9 g m b 2) I call165 (λ_ h=>CR.WT (S:=S) h<|λe D=>D)<|λ_ _=>Ak I<|Ad<|Ad<|Cu (M.Me b 2) (λc=>?_)<|λi c=>?_
 .have a:=MU c;exact LH 5 av I (by rw[c];rfl)<|Cr I<|Lm I<|U I (E3 I JA I I)<|Lm I<|Sb 11 true I (I)<|Mv 6 I<|Nk ZDm
 obtain⟨p,q⟩:=JH c;obtain⟨y,s,r,l,z⟩:=Fq p;obtain⟨f,x,k⟩:=g.get s;have E:=(qp.1 x).1;rw[z,<-k] at q;rw[<-k] at z l r s;refine LH 5 (fp S.vF i) I (by rw[c];rfl)<|Cr I<|Lm I<|U I (E3 I JA I I)<|Lm I<|Sb 11 false I (I)<|Mv 2 I<|N Ej I Z3 I<|U I (AO i 3 I G3 I I RF x I)<|Mv 2 I<|Nk<|CB 17 I (λo=>?_)<|λo=>?_
 .have a:=Xaa c (by rw[z];exact o);exact ZDm
 have a:=Xab c (by rw[z];exact o);rw[z] at a;have j:=m.pins _<|ry s;have t:0<=f.pins:=j.1;have u:f.pins<=(B:Int):=j.2;have A:=m.B9;exact Ab I<|Ah<|Kt<|Y I<|Mv 2 I<|N Ej I Z3 I<|U I (AO i 3 I G3 I I RF x I)<|U I yw<|Lc I<|N Ej I Z3 I<|AD<|Z I<|DR i 3 (({f with pins:=f.pins-1}:FC)) I I Z3 I I I x A2 I<|Nk<|Y I<|Ak I<|Al<|Pm [1] I<|Av I I<|λ_ h=>⟨{S with fl:=S.fl.set i {f with pins:=f.pins-1}},Vl,⟨by rw[a];exact g.fP x I I Iff.rfl,λ_ C=>C.lF x rfl⟩,h⟩
def XhQ (p:Rel S M) (F:M.Ok B) (b:Int) (nv:NV) (N:nv.d.Sm 65536) {l j k o:Nr} (O:∀w,l.at w->j.at w->k.at w->o.at w->OE w nv):Df prog 261 [pV bc,aa b,.agg nv.c.toArray] Tr ([l,j,k,o]++S.H bc) (λr:CS×NV=>.bool (M.N7 b nv.d).1) (λr=>Rel r.1 (M.N7 b nv.d).2/\∀G,(∀e∈Bo r.2,e∈G)->Qj G S.fl->Qj G r.1.fl) (λr=>Bo r.2++[l,j,k,o]++r.1.H bc):=by
 intro w Q J;refine enter (n:=21) (vs:=[pV bc,aa b,.agg nv.c.toArray]) (St w (dom<|l::j::k::o::S.H bc)<|l::j::k::o::CS.H bc S) func261 I I I (St.init J) ?_;refine Y I<|Z I<|AT I I I I<|λP=>Ce nv.c I<|Ak I<|Y I<|Mv 2 I<|Z I<|E1 (F9 p F b 2) I call165 (λ_ h=>CR.WT (S:=S) h<|λe L=>sr _<|sr _<|sr _<|sr _<|sr _<|L)<|λ_ _=>Ak I<|Ad<|Ad<|Cu (M.Me b 2) (λg=>?_)<|λi g=>?_
 .have a:=RO nv.d g;exact LH 7 av I Xh<|Cr I<|Lm I<|U I (E3 I JA I I)<|Nk<|Sb 12 true I (I)<|Am I<|Y I<|Ak I<|Al<|Ag<|Ae<|row0 154 Ms.enc none<|row0 77 (Kv.enc 8) none<|row0 3 ds none<|row0 79 En.enc none<|Av I I<|λ_ h=>⟨(S,⟨n40,au⟩),Vl,⟨by rw[a];exact p,λ_ _ h=>h⟩,h⟩
 obtain⟨v,A⟩:=JH g;obtain⟨y,E,C,q,z⟩:=Fq v;obtain⟨f,x,m⟩:=p.get E;have D:=(qp.1 x).1;rw[z,<-m] at A;rw[<-m] at z q C E;refine LH 7 (fp S.vF i) I Xh<|Cr I<|Lm I<|U I (E3 I JA I I)<|Nk<|Sb 12 false I (I)<|Ab I<|Ah<|Kt<|Y I<|Mv 2 I<|U I hG ?_;have a:=XaV nv.d g;rw[z] at a;refine Z I<|EH (Iw nv N) I I I call155 I (λ_ h=>O _ kj Wj Z7<|h.at 4 I)<|λs _=>Lc I<|EJ Ej I AK I<|DF<|Z I<|J7 i 6 ({f with nv:=(⟨s,nv.d⟩:NV)}:FC) I I AK I I I x I A2 Nc (OR _ _)<|Lc I<|EJ Ej I Z4 I ?_
 have t:(S.fl.set i ({f with nv:=(⟨s,nv.d⟩:NV)}:FC))[i]?=some ({f with nv:=(⟨s,nv.d⟩:NV)}:FC):=tE D;exact Z I<|DR i 5 (({f with nv:=(⟨s,nv.d⟩:NV),dirty:=true}:FC)) I I Z4 I I I t A2 I<|Nk<|Y I<|Ak I<|Al<|Ba (List.set_set ..)<|B7<|Ae<|Pm [1,1,1,1,1,1,1,1,1] I<|Av I I<|λ_ h=>⟨({S with fl:=S.fl.set i ({f with nv:=(⟨s,nv.d⟩:NV),dirty:=true}:FC)},(⟨s,nv.d⟩:NV)),Vl,⟨by rw[a];exact p.fP x I I Iff.rfl,λG u K=>K.set<|.of u⟩,h⟩
def Xf2 (l:Rel S M) (U:M.Ok B) (b:Int) (nv:NV) (X:nv.d.Sm 65536):Df prog 133 [pV bc,aa b,.agg nv.c.toArray] Tr (Bo nv++S.H bc) (λr:CS×NV×d0=>.tuple #[r.2.2,.bool (M.fill b nv.d).1.2]) (λr=>Rel r.1 (M.fill b nv.d).2/\∀G,(∀e∈Bo r.2.1,e∈G)->Qj G S.fl->Qj G r.1.fl) (λr=>AG r.2.2 3 ds (M.fill b nv.d).1.1::(Bo r.2.1++Bo nv++r.1.H bc)):=by
 intro w Z V;refine enter (n:=35) (vs:=[pV bc,aa b,.agg nv.c.toArray]) (St w (dom<|Ct nv.s.e nv.d.es::CT nv.s.k nv.d.kids::CU nv.s.p nv.d.piv::C5 nv.s.m nv.d.msgs::S.H bc)<|Ct nv.s.e nv.d.es::CT nv.s.k nv.d.kids::CU nv.s.p nv.d.piv::C5 nv.s.m nv.d.msgs::CS.H bc S) func133 I I I (St.init V) ?_;refine Cs I<|LW I<|AT I I I I<|λY=>Ce nv.c I<|Nh I<|Ak I<|Cs I<|Mv 2 I<|LW I<|E1 (F9 l U b 1) I call165 (λ_ h=>CR.WT (S:=S) h<|λe W=>sr _<|sr _<|sr _<|sr _<|sr _<|W)<|λ_ _=>Ak I<|Ad<|Ad<|Cu (M.Me b 1) (λu=>?_)<|λi u=>?_
 .have x:=OP nv.d u;exact LH 8 av I (by rw[u];rfl)<|Cr I<|Lm I<|Lq I (E3 I JA I I)<|Nk<|Sb 14 true I (I)<|Am I<|Cs I<|Nh I<|Ak I<|Al<|Ag<|Ae<|row0 154 Ms.enc none<|row0 77 (Kv.enc 8) none<|row0 3 ds none<|row0 79 En.enc none<|row0 3 ds none<|Bw (rs:=[.tmp 6,.tmp 7]) I I<|λ_ h=>⟨(S,⟨n40,au⟩,C0),Uw,⟨by rw[x];exact l,λ_ _ h=>h⟩,by rw[x];exact h⟩
 obtain⟨L,z⟩:=JH u;obtain⟨y,R,P,D,o⟩:=Fq L;obtain⟨f,a,C⟩:=l.get R;have Q:=(qp.1 a).1;rw[o,<-C] at z;rw[<-C] at o D P R;refine LH 8 (fp S.vF i) I (by rw[u];rfl)<|Cr I<|Lm I<|Lq I (E3 I JA I I)<|Nk<|Sb 14 false I (I)<|Ab I<|Ah<|Kt<|Cs I<|Mv 2 I<|Lq I hG ?_;have x:=XaB nv.d u;rw[o] at x;refine LW I<|EH (Iw nv X) I I I call155 I yJ<|λs _=>Lc I<|EJ Ej I Z3 I<|DF<|LW I<|DR i 0 (({f with st:=2}:FC)) I I Z3 I I I a A2 I<|Lc I<|EJ Ej I AK I ?_
 have E:(S.fl.set i ({f with st:=2}:FC))[i]?=some ({f with st:=2}:FC):=tE Q;refine LW I<|J7 i 6 ({f with st:=2,nv:=(⟨s,nv.d⟩:NV)}:FC) I I AK I I I E I A2 Nc (OR _ _)<|Nk<|Cs I<|Mv 2 I<|EJ Dj I Wu I<|Lo isAgg254 10 I<|Lm I<|Lq I (Xaw (kf:=kI) (vf:=vS) b I TC LY zeroValue22 I I<|Ob 12 I)<|Ak I<|Ad<|Ba (List.set_set ..)<|Cu (Cw b S.ld) (λhm=>?_)<|λq hm=>?_
 .obtain⟨t,_⟩:=P2 hm;have K:M.told b=[]:=ZHY;refine LH 9 C0 I Yq<|XdY ?_;have N:(M.fill b nv.d).1.1=[]:=by rw[x];exact K
  have F:({S with fl:=S.fl.set i ({f with st:=2,nv:=(⟨s,nv.d⟩:NV)}:FC),ld:=BY b S.ld}:CS).rows=S.rows:=by unfold CS.rows;show List.map _ (BY b S.ld)=_;rw[t]
  refine row0 3 ds none<|Bw (rs:=[.tmp 6,.tmp 7]) I I ?_
  exact λ_ h=>⟨(({S with fl:=S.fl.set i ({f with st:=2,nv:=(⟨s,nv.d⟩:NV)}:FC),ld:=BY b S.ld}:CS),(⟨s,nv.d⟩:NV),C0),Uw,⟨ZDK,λG g J=>J.set<|.of g⟩,by
   rw[N];have A:=h
   rw[<-F] at A;exact A⟩
 obtain⟨j,hj,t,_⟩:=KT hm;have K:M.told b=q.2:=ZHY;have O:=XbW hj;refine LH 9 q.1.v I Yq<|XdY ?_;have N:(M.fill b nv.d).1.1=q.2:=by rw[x];exact K
 have F:({S with fl:=S.fl.set i ({f with st:=2,nv:=(⟨s,nv.d⟩:NV)}:FC),ld:=BY b S.ld}:CS).rows=S.rows.eraseIdx j:=by rw[Xfe,<-t];rfl
 refine Bw (rs:=[.tmp 6,.tmp 7]) I I ?_
 exact λ_ h=>⟨(({S with fl:=S.fl.set i ({f with st:=2,nv:=(⟨s,nv.d⟩:NV)}:FC),ld:=BY b S.ld}:CS),(⟨s,nv.d⟩:NV),q.1.v),Uw,⟨ZDK,λG g J=>J.set<|.of g⟩,by
  rw[N];have A:=St.Xdi (pre:=[_,_,_,_,_,_,_,_,_,_,_,_,_]) (T:=S.rows) O h
  rw[<-F] at A;exact A⟩
section
variable {P:d8} {n:Nat} {L:Env} {o:Oper} {Q:aB} {K:aO} {w0:d7} {D:bm}
def J8 {v:β->d0} {p:β->Prop} {HB:β->ci} (pre:ci) (s:Df P f vs E HA v p HB) (c:o.op=.call ⟨.value<|.func f,xs.toArray,ts⟩) (hd:o.dst=some d) (a:d.blt n)
 (g:∀us w,(callFunc f us).run P w=.ok (.enter f us) w) (y:evs L xs=some vs) (z:∀w,St w0 D (pre++HA) w->E w) (h:∀b,p b->Pre n ((d,v b)::L) (St w0 D<|pre++HB b) K):Nl P n L (St w0 D<|pre++HA) o Q K :=
 DA c hd a g y yL h
def RR (pre HA F:ci):(pre++(HA++F)).Perm (HA++(pre++F)):=by
 rw[<-qQ,<-qQ];exact sV.append_right F
def RT {v:β->d0} {p:β->Prop} {HB:β->ci} (pre F:ci) (s:Df P f vs E HA v p HB) (c:o.op=.call ⟨.value<|.func f,xs.toArray,ts⟩) (hd:o.dst=some d) (a:d.blt n)
 (g:∀us w,(callFunc f us).run P w=.ok (.enter f us) w) (y:evs L xs=some vs) (z:∀w,St w0 D (pre++(HA++F)) w->E w) (h:∀b,p b->Pre n ((d,v b)::L) (St w0 D<|pre++(HB b++F)) K):Nl P n L (St w0 D<|pre++(HA++F)) o Q K :=
 DA c hd a g y (λw x=>(s.frame (F:=pre++F) (x.perm<|RR pre HA F)<|z w x).mono<|λe w' ⟨b,he,hp,h'⟩=>⟨b,he,hp,h'.perm (RR pre (HB b) F).symm⟩) h
end
def Gx {B:Nat} (h:M.Ok B) {i:Nat} {y y':Vw} (d:M.fr[i]?=some y) (x:y'.st=y.st) (b:y'.blk=y.blk) (f:y'.own=y.own) (k:0<=y'.pins/\y'.pins<=(B:Int)) (l:y'.nd.Sm 1000):(M.put i y').Ok B:=by
 have hm:=ry d;refine KR h d (by rw[x];exact h.st y hm) (by rw[x,b];exact h.none' y hm) (by rw[x,b];exact h.blk y hm) (by rw[x,f];exact h.own y hm) (by rw[x,f];exact h.XL y hm) k (λa j z hj g c e=>?_) (λq _ a c=>⟨by rw[x];exact a,by rw[b];exact c⟩) l;rw[x] at a;exact hj<|h.uni j i z y g d c a<|by rw[e,b]
def Rel.new (h:Rel S M) {k:Nat} {y y':Vw} {f':FC} {b:Int} (g:M.fr[k]?=some y) (z:¬(y.st=1\/y.st=2)) (a:M.find b=none) (x:vw f'=y') (d:f'.blk=b) (f:f'.st=1\/f'.st=2):Rel {S with fl:=S.fl.set k f',at':=C4 b (k:Int) S.at'} (M.put k y') :=
 h.put x _ (λc=>by
  rw[eb g z a (by rw[<-x];exact d)<|by rw[<-x];exact f]
  by_cases e:c=b
  .subst e;rw[pN rfl,J0];rfl
  .rw[pQ e,IU Zh];exact h.at' c)<|G7 b _ h.na
def TU (h:(Ry b&&M.SY t b)=false):M.pin t b=(0,M):=by unfold Mo.pin;rw[pN h]
def Xcs {y:Vw} (h:(Ry b&&M.SY t b)) (x:M.find b=some i) (z:M.at' i=y):M.pin t b=if y.st=2 then (1,(M.put i {y with pins:=y.pins+1,ref:=true}).leave t) else (2,{(M.put i {y with pins:=y.pins+1,ref:=true}).leave t with loads:=M.loads++[(t,b)]}):=by
 subst z;unfold Mo.pin;rw[pQ wz,x];rfl
def OS (h:(Ry b&&M.SY t b)) (x:M.find b=none) (y:M.takes t=none):M.pin t b=(4,M.ask t b):=by unfold Mo.pin;rw[pQ wz,x];simp only;rw[y]
def XaW {k:Nat} (h:(Ry b&&M.SY t b)) (x:M.find b=none) (y:M.takes t=some k):M.pin t b=(3,(M.leave t).put k ⟨1,b,0,1,true,false,nd0⟩):=by unfold Mo.pin;rw[pQ wz,x];simp only;rw[y]
def XaX (h:M.SY t (-1)=false):M.claim t=(false,M):=by unfold Mo.claim;rw[pN h]
def Lx (h:M.SY t (-1)) (x:M.takes t=none):M.claim t=(false,M.ask t (-1)):=by unfold Mo.claim;rw[pQ wz,x]
def Xac {k:Nat} (h:M.SY t (-1)) (x:M.takes t=some k):M.claim t=(true,(M.leave t).put k ⟨3,-1,t,1,false,false,nd0⟩):=by unfold Mo.claim;rw[pQ wz,x]
def XhR (c:Int):((M.loads++[(t,b)]).filter<|λq=>decide (q.2=c)).map Prod.fst=if c=b then M.told c++[t] else M.told c:=by
 rw[tq,qR];unfold Mo.told;by_cases e:c=b
 .subst e;rw[pN rfl];simp
 rw[pQ e];simp[tH,rQ e]
def Rel.wait (h:Rel S M) (t b:Int) (x:Sv) (l:bf) (y:l=M.told b++[t]):Rel {S with ld:=C4 b (x,l) S.ld} {M with loads:=M.loads++[(t,b)]}:=by
 refine⟨h.fr,h.ln,h.hd,h.at',λc=>?_,G7 b _ h.nd,h.na⟩
 .show ((M.loads++[(t,b)]).filter<|λq=>decide (q.2=c)).map Prod.fst=match Cw c (C4 b (x,l) S.ld) with|some q=>q.2|none=>[]
  rw[XhR];by_cases e:c=b
  .subst e;rw[pN rfl,J0];exact y.symm
  rw[pQ e,IU Zh];exact h.ld c
def XhS (h:Ry b) (t:Int):wn (t,b)=⟨t,b,false⟩:=by
 unfold Ry at h;simp only[qW,rA] at h;unfold wn;simp only[Wn.mk.injEq,true_and];exact sS J
def XhT (a:Rel S M) (l:M.Ok B) (hB:B+1<=60000) (t b:Int) (O:i64 b):Df prog 174 [pV bc,aa t,aa b] Tr (S.H bc) (λJ:CS=>aa (M.pin t b).1) (λJ=>Rel J (M.pin t b).2/\∀G,Qj G S.fl->Qj G J.fl) (λJ=>J.H bc):=by
 intro w hE hH;refine enter (n:=84) (vs:=[pV bc,aa t,aa b]) (St w (dom<|S.H bc)<|CS.H bc<|S) func174 I I I (St.init hH) ?_;refine Cs I<|Ak I<|Cs I<|Mv 2 I<|Lq I (AS ((⟨t,b,false⟩:Wn).c) I I uX)<|LW I<|Ax I I I zeroValue277<|λbw=>Ce (⟨0,0,false⟩:Wn).c I<|LW I<|SW FT I (Wn.one _)<|Ns<|Cs I<|Lm I<|LW I<|E1 (ZA b) I call241 Tt<|λ_ _=>Lq I (Qt I)<|Lm I<|CB 17 I (λU=>?_)<|λU=>?_
 .have x:=TU (M:=M) (t:=t) (b:=b) (by rw[U];rfl);exact Mv 5 I<|Nk ZAS
 have V:=XhS U t;refine Lm I<|Lq I ZGx<|LH 19 (.agg (wn (t,b)).c.toArray) I (by rw[V])<|LW I<|E1 (fF a l t b O) I call242 mP<|λ_ _=>Lq I (Qt I)<|Lq I (Qz I)<|Nk<|CB 22 I (λhm=>?_)<|λhm=>?_
 .have x:=TU (M:=M) (t:=t) (b:=b) (by rw[U,hm];rfl);exact ZAS
 have A:(Ry b&&M.SY t b)=true:=by rw[U,hm];rfl
 refine Ab I<|Ah<|Ks<|Cs I<|Mv 2 I<|LW I<|E1 (Fc a l b) I call194 mP<|λ_ _=>Ak I<|Ad<|Cu (M.find b) (λm=>?_)<|λi m=>?_
 .refine LH 8 (aa (-1)) I (by rw[m];rfl) (Cr I<|Mv 2 I<|Nk<|Sb 27 false I (I)<|Ab I<|Ah<|Kt<|Cs I<|Mv 2 I<|LW I<|E1 (free_spec a l t) I call244 mP<|λ_ _=>Ak I<|Ad<|Ad<|Cu (M.takes t) (λC=>?_)<|λk C=>?_)
  .have x:=OS A m C;refine LH 10 av I (by rw[C];rfl)<|Cr I<|Lm I<|Lq I (E3 I JA I I)<|Nk<|Sb 70 true I (I)<|Am I<|Cs I<|Lm I<|Lq I ZGx<|LH 72 (.agg (wn (t,b)).c.toArray) I (by rw[V])<|LW I<|Ee [_] (XaU a l t b) I call245 Tt<|λv _=>Pw (St _ _<|_::CS.H bc (({S with vL:=v,ln:=(M.ask t b).line.map wn}:CS))) ?_
   exact Nk<|Cs I<|Ak I<|Al<|Ag<|Ae<|Av I I<|λ_ h=>⟨({S with vL:=v,ln:=(M.ask t b).line.map wn}:CS),Uw,⟨by rw[x];exact a.line v _,λ_ h=>h⟩,h⟩
  have x:=XaW A m C;obtain⟨y0,D,o,u⟩:=Ix C;obtain⟨f0,h5,R⟩:=a.get D;have h4:=(qp.1 h5).1;refine LH 10 (fp S.vF k) I (by rw[C];rfl)<|Cr I<|Lm I<|Lq I (E3 I JA I I)<|Nk<|Sb 70 false I (I)<|Ab I<|Ah<|Kt<|Cs I<|Mv 2 I<|LW I<|Ee [_] (JI a l t) I call243 Tt<|λv _=>Pw (St _ _<|_::CS.H bc (({S with vL:=v,ln:=(M.leave t).line.map wn}:CS)))<|Nk<|Cs I<|Mv 2 I<|Lq I (AS ((⟨1,b,-1,1,true,false,NZ⟩:FC).c) I I uX)<|Lc I<|AQ<|LW I<|EF k ((⟨1,b,-1,1,true,false,NZ⟩:FC)) I I Er I I I I A1<|Nk<|Cs I<|Mv 2 I<|Pm [1,1] I ?_
  have X:({S with vL:=v,ln:=(M.leave t).line.map wn,fl:=S.fl.set k (⟨1,b,-1,1,true,false,NZ⟩:FC)}:CS).fl[k]?=some (⟨1,b,-1,1,true,false,NZ⟩:FC):=tE h4
  have L:({S with vL:=v,ln:=(M.leave t).line.map wn,fl:=S.fl.set k (⟨1,b,-1,1,true,false,NZ⟩:FC)}:CS).fl.length<=65536:=by
   show (S.fl.set k _).length<=_
   rw[sI,a.len];have:=l.n64;omega
  refine Pw (St _ _<|_::CS.H bc ({S with vL:=v,ln:=(M.leave t).line.map wn,fl:=S.fl.set k (⟨1,b,-1,1,true,false,NZ⟩:FC)}:CS)) ?_;refine LW I<|Ee [_] (Lw (S:=({S with vL:=v,ln:=(M.leave t).line.map wn,fl:=S.fl.set k (⟨1,b,-1,1,true,false,NZ⟩:FC)}:CS)) X L) I call246 Tt<|λ_ _=>Pw (St _ _<|_::CS.H bc (({S with vL:=v,ln:=(M.leave t).line.map wn,fl:=S.fl.set k (⟨1,b,-1,1,true,false,NZ⟩:FC),at':=C4 b (k:Int) S.at'}:CS))) ?_
  exact Nk<|Cs I<|Ak I<|Al<|Ae<|Av I I<|λ_ h=>⟨({S with vL:=v,ln:=(M.leave t).line.map wn,fl:=S.fl.set k (⟨1,b,-1,1,true,false,NZ⟩:FC),at':=C4 b (k:Int) S.at'}:CS),Uw,⟨by rw[x];exact (a.line v (M.leave t).line).new (M:=M.leave t) D (by rw[o];decide) m I I WM,λ_ r=>r.set<|.zero _⟩,h⟩
 obtain⟨y,W,h8,o,u⟩:=Fq m;obtain⟨f,d,R⟩:=a.get W;have Y:=(qp.1 d).1;rw[<-R] at u o h8 W;have x:=Xcs A m u;have x2:=l.B9;have N:=l.pins _<|ry W;have h9:0<=f.pins:=N.1;have x1:f.pins<=(B:Int):=N.2;refine LH 8 (aa (i:Int)) I (by rw[m];rfl)<|Cr I<|Mv 2 I<|Nk<|Yf 27 I A1<|Am I<|Cs I<|Mv 2 I<|EJ Dj I F4 I<|Lo GO 1 I<|Lm I<|Lq I (Aw i I Fx Er I ue I I)<|Ak I<|Cs I<|Mv 2 I<|EJ Ej I Z3 I<|Lq I (AO i 3 I G3 I I ue d I)<|Lq I py<|Lc I<|EJ Ej I Z3 I<|AQ<|LW I<|DR i 3 (({f with pins:=f.pins+1}:FC)) I I Z3 I I I d A2 I<|Nk<|Cs I<|Mv 2 I<|EJ Ej I Z4 I ?_;have Z:(S.fl.set i ({f with pins:=f.pins+1}:FC))[i]?=some ({f with pins:=f.pins+1}:FC):=tE Y;refine LW I<|DR i 4 (({f with pins:=f.pins+1,ref:=true}:FC)) I I Z4 I I I Z A2 I<|Ns<|Ba (List.set_set ..)<|Pm [1,1] I<|Cr I<|Mv 2 I ?_;have s:Rel ({S with fl:=S.fl.set i ({f with pins:=f.pins+1,ref:=true}:FC)}:CS) (M.put i {vw f with pins:=(vw f).pins+1,ref:=true}):=a.fP d rfl rfl Iff.rfl;have h3:Mo.Ok (M.put i {vw f with pins:=(vw f).pins+1,ref:=true}) (B+1):=Gx (y:=vw f) (y':={vw f with pins:=(vw f).pins+1,ref:=true}) (l.mono (tC B) hB) W rfl rfl rfl ⟨by show 0<=f.pins+1;omega,by show f.pins+1<=_;omega⟩ (l.es (vw f)<|ry W);refine Pw (St _ _<|_::CS.H bc ({S with fl:=S.fl.set i ({f with pins:=f.pins+1,ref:=true}:FC)}:CS)) ?_;refine LW I<|Ee [_] (JI s h3 t) I call243 Tt<|λv _=>Pw (St _ _<|_::CS.H bc (({S with vL:=v,ln:=(Mo.leave (M.put i {vw f with pins:=(vw f).pins+1,ref:=true}) t).line.map wn,fl:=S.fl.set i ({f with pins:=f.pins+1,ref:=true}:FC)}:CS)))<|Ns<|Ad ?_
 have h6:(S.fl.set i ({f with pins:=f.pins+1,ref:=true}:FC))[i]?=some ({f with pins:=f.pins+1,ref:=true}:FC):=tE Y;refine Cr I<|Mv 2 I<|EJ Ej I Z3 I<|Lq I (AO i 0 I G3 I I ue h6 I)<|Lq I (Qe I)<|Nk<|CB 51 I (λhs=>?_)<|λhs=>?_
 .rw[pN<|show (vw f).st=2 from hs] at x;exact Am I<|Cs I<|Ak I<|Al<|Ag<|Ag<|Ae<|Av I I<|λ_ h=>⟨({S with vL:=v,ln:=(Mo.leave (M.put i {vw f with pins:=(vw f).pins+1,ref:=true}) t).line.map wn,fl:=S.fl.set i ({f with pins:=f.pins+1,ref:=true}:FC)}:CS),Uw,⟨by rw[x];exact s.line v _,λ_ r=>r.lF d rfl⟩,h⟩
 rw[pQ<|show ¬(vw f).st=2 from hs] at x;have K:=l.ll;have E:Rel ({S with vL:=v,ln:=(Mo.leave (M.put i {vw f with pins:=(vw f).pins+1,ref:=true}) t).line.map wn,fl:=S.fl.set i ({f with pins:=f.pins+1,ref:=true}:FC)}:CS) (Mo.leave (M.put i {vw f with pins:=(vw f).pins+1,ref:=true}) t):=s.line v _;refine Ab I<|Ah<|Ks<|LZ (rg 15) 11691702 (λw2=>(Ac bc 257 ({S with vL:=v,ln:=(Mo.leave (M.put i {vw f with pins:=(vw f).pins+1,ref:=true}) t).line.map wn,fl:=S.fl.set i ({f with pins:=f.pins+1,ref:=true}:FC)}:CS).cells).at w2/\(D1 S.bL kI vS S.ld).at w2) I St.drawn (H2 1 4 I)<|Md 2 I<|Ht Dj I Wu I<|Dq I (Aj I isAgg254 I uO I)<|Md 3 I<|Ht Dj I Wu I<|Dq I (Aj I isAgg254 I uO I)<|Dm I<|Dq I (Xaw (kf:=kI) (vf:=vS) b I TC LY zeroValue22 I I uS)<|Dm I<|Cu (Cw b S.ld) (λz=>?_)<|λq z=>?_
 .obtain⟨_,p⟩:=P2 z;have P:M.told b=[]:=ZHo;refine LH 62 C0 I U8 ?_
  have h1:(([]:bf)).length<=B:=by
   rw[<-P];unfold Mo.told;rw[qY];exact qM (tm _ _) K
  refine row0 3 ds none<|MX I<|As (sz:=1) [.tmp 63] I I I I I KI Z3 I zeroValue3 I<|λb2=>Ai (H2 3 6 I)<|AD<|MX I<|Ap KI KI CD I ig A8<|λv2=>AD<|Ae<|Ai (H2 2 5 I)<|Ux ?_
  rintro⟨g,rfl⟩;refine B7<|KC I<|PV (kf:=kI) (vf:=vS) b (g,(([]:bf)++[t])) I I TC LY I I I<|AN<|Kt<|Cs I<|Ak I<|Al<|Ag<|AQ<|Ae<|Pm [1,1,1,1] I ?_;have e2:({S with vL:=v,ln:=(Mo.leave (M.put i {vw f with pins:=(vw f).pins+1,ref:=true}) t).line.map wn,fl:=S.fl.set i ({f with pins:=f.pins+1,ref:=true}:FC),ld:=C4 b (g,(([]:bf)++[t])) S.ld}:CS).rows=S.rows++[TR (b,(g,(([]:bf)++[t])))]:=by unfold CS.rows;show List.map _ (C4 b (g,(([]:bf)++[t])) S.ld)=_;rw[p,qR];rfl
  refine Av I I ?_
  exact λ_ h=>⟨({S with vL:=v,ln:=(Mo.leave (M.put i {vw f with pins:=(vw f).pins+1,ref:=true}) t).line.map wn,fl:=S.fl.set i ({f with pins:=f.pins+1,ref:=true}:FC),ld:=C4 b (g,(([]:bf)++[t])) S.ld}:CS),Uw,⟨by rw[x];exact E.wait t b g _ (by rw[show Mo.told (Mo.leave (M.put i {vw f with pins:=(vw f).pins+1,ref:=true}) t) b=M.told b from rfl,P]),λ_ r=>r.lF d rfl⟩,by
   have F:=St.Xh7 (pre:=[_,_,_,_,_]) (T:=S.rows) h
   rw[<-e2] at F;exact F⟩
 obtain⟨j,hj,_,p⟩:=KT z;have P:M.told b=q.2:=ZHo;have h7:=XbW hj;refine LH 62 q.1.v I U8 ?_
 have h1:(q.2).length<=B:=by
  rw[<-P];unfold Mo.told;rw[qY];exact qM (tm _ _) K
 refine Pre.world (St _ _<|TR (b,q)::(_::_::_::_::_::_::S.rows.eraseIdx j)) (λ_ h=>St.Xdi (pre:=[_,_,_,_,_,_]) (T:=S.rows) h7 h) ?_;refine MX I<|As (sz:=1) [.tmp 63] I I I I I KI Z3 I zeroValue3 I<|λb3=>Ai (H2 3 6 I)<|AD<|MX I<|Ap KI KI CD I ig A8<|λv2=>AD<|Ae<|Ai (H2 2 5 I)<|Ux ?_
 rintro⟨g,rfl⟩;refine B7<|KC I<|PV (kf:=kI) (vf:=vS) b (g,(q.2++[t])) I I TC LY I I I<|AN<|Kt<|Cs I<|Ak I<|Al<|Ag<|AQ<|Ae<|Pm [1,1,1,1] I ?_;have e2:({S with vL:=v,ln:=(Mo.leave (M.put i {vw f with pins:=(vw f).pins+1,ref:=true}) t).line.map wn,fl:=S.fl.set i ({f with pins:=f.pins+1,ref:=true}:FC),ld:=C4 b (g,(q.2++[t])) S.ld}:CS).rows=S.rows.set j (TR (b,(g,(q.2++[t])))):=by rw[XhO,<-p];rfl
 refine Av I I ?_
 exact λ_ h=>⟨({S with vL:=v,ln:=(Mo.leave (M.put i {vw f with pins:=(vw f).pins+1,ref:=true}) t).line.map wn,fl:=S.fl.set i ({f with pins:=f.pins+1,ref:=true}:FC),ld:=C4 b (g,(q.2++[t])) S.ld}:CS),Uw,⟨by rw[x];exact E.wait t b g _ (by rw[show Mo.told (Mo.leave (M.put i {vw f with pins:=(vw f).pins+1,ref:=true}) t) b=M.told b from rfl,P]),λ_ r=>r.lF d rfl⟩,by
  have F:=St.XlF (pre:=[_,_,_,_,_]) (T:=S.rows) (by rw[XhP];exact (qp.1 hj).1) h
  rw[<-e2] at F;exact F⟩
def fE:FC:=⟨0,-1,-1,0,false,false,NZ⟩
def mA:vw fE=Cy:=rfl
def Xf3 {α:Type} {p:α->Bool} {l:List α} {i:Nat} {x:α} (h:l[i]?=some x):B8 p (l.take<|i+1)=match B8 p (l.take i) with|some k=>some k|none=>if p x=true then some i else none:=by
 have z:=(qp.1 h).1;have y:(l.take i).length=i:=xN;unfold B8;rw[sH,h,List.findIdx?_append];cases hf:(l.take i).findIdx? p with
 |some k=>rfl
 |none =>
  simp only[Option.none_or,Option.toList,tD,List.findIdx?_nil,y];cases p x<;>simp
def RW (M:Mo) (t:Int):∀i,i<=M.fr.length->(cls M t i).head?=B8 (isC t) (M.fr.take i)
 |0,_=>rfl
 |i+1,h=>by
  obtain⟨y,x⟩:=gE M.fr i
  rw[Xf3 x,MS,Ls x,<-RW M t i J]
  cases hc:cls M t i with
  |nil=>cases isC t y<;>simp
  |cons a l=>cases isC t y<;>simp
def W2 (M:Mo) (t:Int):B8 (isC t) M.fr=(cls M t M.fr.length).head?:=by rw[RW M t _<|qb _,tg]
def P3:i∈cls M t n↔i<n/\isC t (M.at' i)=true:=by
 unfold cls;rw[tc,qm]
def Oa (fl:cO) (l:bm):cO:=l.foldl (λa k=>a.set k fE) fl
def XaC:∀(l:bm) (fl:cO) (i:Nat),(Oa fl l)[i]?=if i∈l then (fl[i]?).map (λ_=>fE) else fl[i]?
 |[],fl,i=>by simp[Oa]
 |k::l,fl,i=>by
  show (Oa (fl.set k fE) l)[i]?=_
  rw[XaC l (fl.set k fE) i,tb]
  by_cases e:k=i
  .subst e
   by_cases hlt:k<fl.length
   .simp[hlt]
   .simp[hlt]
  .simp[e,rQ e]
def W4 (l:bm) (fl:cO):(Oa fl l).length=fl.length:=by
 induction l generalizing fl with
 |nil=>rfl
 |cons k l ih=>show (Oa (fl.set k fE) l).length=_;rw[ih,sI]
def XhU (h:Rel S M) (t:Int):(Oa S.fl<|cls M t M.fr.length).map vw=(M.give t).fr:=by
 refine qA<|λi=>?_
 show _=(M.fr.map<|λf=>if isC t f=true then Cy else f)[i]?
 rw[qq,XaC,qq,<-h.fr,qq];cases hf:S.fl[i]? with
 |none=>split<;>rfl
 |some f =>
  have y:=h.XU hf;have x:=(qp.1 y).1;have hm:i∈cls M t (S.fl.map vw).length↔isC t (vw f)=true:=by rw[h.fr,P3,Ls y];exact⟨λe=>e.2,λe=>⟨x,e⟩⟩
  by_cases hc:isC t (vw f)=true
  .rw[pN<|hm.2 hc];simp[hc,mA]
  rw[pQ<|λe=>hc<|hm.1 e];simp[hc]
def W5 (h:M.Ok B) (t b:Int):(M.give t).find b=M.find b:=by
 show B8 (Oq b) (M.fr.map<|λf=>if isC t f=true then Cy else f)=_
 rw[XaT];unfold Mo.find;congr 1;funext f;split
 .rename_i hc;unfold isC at hc;simp only[qW,rA] at hc;unfold Oq Cy;simp only[hc.1];simp
 rfl
def Rel.give (h:Rel S M) (x:M.Ok B) (t:Int):Rel {S with fl:=Oa S.fl<|cls M t M.fr.length} (M.give t) :=
 ⟨XhU h t,h.ln,h.hd,λb=>by rw[W5 x];exact h.at' b,h.ld,h.nd,h.na⟩
def MY (nd:Nd) (h:(Ry b&&(M.find b).isNone)=false):M.name t b nd=(false,M):=by unfold Mo.name;rw[h]
def XaY (nd:Nd) (h:B8 (isC t) M.fr=none):M.name t b nd=(false,M):=by unfold Mo.name;rw[h];cases (Ry b&&(M.find b).isNone)<;>rfl
def XaZ {k:Nat} (nd:Nd) (h:(Ry b&&(M.find b).isNone)) (x:B8 (isC t) M.fr=some k):M.name t b nd=(true,M.put k ⟨2,b,0,0,true,true,nd⟩):=by unfold Mo.name;rw[h,x]
def WC (n:Nat):Mo:=⟨List.replicate n Cy,[],[],0⟩
def Qj.give {G:ci} {fl:cO} (h:Qj G fl) (l:bm):Qj G (Oa fl l):=by
 induction l generalizing fl with
 |nil=>exact h
 |cons k l ih=>exact ih<|h.set<|U0.zero _
def Xkb {s s':Int} (h:¬(s=1\/s=2)) (x:¬(s'=1\/s'=2)):(s=1\/s=2)↔(s'=1\/s'=2):=⟨λe=>absurd e h,λe=>absurd e x⟩
def Xfg (x:Rel S M) (d:M.Ok B) (t:Int):Df prog 207 [pV bc,aa t] Tr (S.H bc) (λf:CS=>.bool (M.claim t).1) (λf=>Rel f (M.claim t).2/\∀G,Qj G S.fl->Qj G f.fl) (λf=>f.H bc):=by
 intro w A p;refine enter (n:=28) (vs:=[pV bc,aa t]) (St w (dom<|S.H bc)<|CS.H bc<|S) func207 I I I (St.init p) ?_;refine Cs I<|Ak I<|Cs I<|Lm I<|Lq I (AS ((wn (t,-1)).c) I I uX)<|LW I<|Ax I I I zeroValue277<|λC=>Ce (⟨0,0,false⟩:Wn).c I<|LW I<|SW FT I (Wn.one _)<|Ns<|Cs I<|Lm I<|Lq I (Cq ((wn (t,-1)).c) PI FT 0 I (I)<|I)<|LW I<|E1 (fF x d t (-1)<|MP A2 A2) I call242 mQ<|λ_ _=>Lq I (Qt I)<|Nk<|CB 12 I (λhm=>?_)<|λhm=>?_
 .have y:=XaX (M:=M) (t:=t) hm;exact Am I<|Cs I<|Ak I<|Al<|Ag<|Ae<|Av I I<|λ_ h=>⟨S,XE,⟨by rw[y];exact x,λ_ h=>h⟩,h⟩
 refine Ab I (Ah<|Kt<|Cs I<|Mv 2 I<|LW I<|E1 (free_spec x d t) I call244 mQ<|λ_ _=>Ak I<|Ad<|Ad<|Cu (M.takes t) (λa=>?_)<|λk a=>?_)
 .have y:=Lx hm a;refine LH 6 av I dY<|Cr I<|Lm I<|Lq I (E3 I JA I I)<|Nk<|Sb 17 true I (I)<|Am I<|Cs I<|Lm I<|Lq I (Cq ((wn (t,-1)).c) PI FT 0 I (I)<|I)<|LW I<|Ee [_] (XaU x d t (-1)) I call245 Tt<|λv _=>Pw (St _ _<|_::CS.H bc (({S with vL:=v,ln:=(M.ask t (-1)).line.map wn}:CS))) ?_
  exact Nk<|Cs I<|Ak I<|Al<|Ag<|Ae<|Av I I<|λ_ h=>⟨({S with vL:=v,ln:=(M.ask t (-1)).line.map wn}:CS),XE,⟨by rw[y];exact x.line v _,λ_ h=>h⟩,h⟩
 have y:=Xac hm a;obtain⟨r,b,z,s⟩:=Ix a;obtain⟨o,g,i⟩:=x.get b;have u:=(qp.1 g).1;have m:o.blk = -1:=by have:=d.none' r (ry b)<|.inl z;rw[<-i] at this;exact this
 have j:o.st=0:=by rw[<-i] at z;exact z
 refine LH 6 (fp S.vF k) I dY<|Cr I<|Lm I<|Lq I (E3 I JA I I)<|Nk<|Sb 17 false I (I)<|Ab I<|Ah<|Kt<|Cs I<|Mv 2 I<|LW I<|Ee [_] (JI x d t) I call243 Tt<|λv _=>Pw (St _ _<|_::CS.H bc (({S with vL:=v,ln:=(M.leave t).line.map wn}:CS))) ?_
 exact Nk<|Cs I<|Mv 2 I<|Lq I (AS ((⟨3,-1,t,1,false,false,NZ⟩:FC).c) I I uX)<|Lc I<|AQ<|LW I<|EF k ((⟨3,-1,t,1,false,false,NZ⟩:FC)) I I Er I I I I A1<|Nk<|Cs I<|Ak I<|Al<|AD<|Ae<|Pm [1] I<|Av I I<|λ_ h=>⟨({S with vL:=v,ln:=(M.leave t).line.map wn,fl:=S.fl.set k (⟨3,-1,t,1,false,false,NZ⟩:FC)}:CS),XE,⟨by rw[y];exact (x.line v (M.leave t).line).fP (M:=M.leave t) (f':=(⟨3,-1,t,1,false,false,NZ⟩:FC)) g I m.symm<|Xkb (show ¬((3:Int)=1\/(3:Int)=2) by decide)<|by rw[j];decide,λ_ q=>q.set<|.zero _⟩,h⟩
def JJ :Df prog 144 [] Tr [] (λ_:Unit=>.agg fE.c.toArray) Tr (λ_=>[]):=by
 intro w y x;refine E0 func144 I x ?_;exact Y I<|Z I<|Ax I I I zeroValue259<|λz=>Ce (⟨0,0,0,0,false,false,NZ⟩:FC).c I<|G<|Y I<|U I (AS fE.c I I uX)<|Z I<|SW Er I (FC.one _)<|G<|s<|CE I (AL I isAgg259 Er uP<|I) uZ
def kM (a:Rel S M) (z:M.Ok B) (t:Int):Df prog 263 [pV bc,aa t] Tr (S.H bc) (λy:CS=>aa (M.claims t:Int)) (λy=>Rel y (M.give t)/\∀G,Qj G S.fl->Qj G y.fl) (λy=>y.H bc):=by
 intro w s f;refine enter (n:=23) (vs:=[pV bc,aa t]) (St w (dom<|S.H bc)<|CS.H bc<|S) func263 I I I (St.init f) ?_;refine Y I<|A I<|Y I<|C 2 I ?_;obtain⟨ks,x⟩:∃ks,ks=cls M t M.fr.length:=⟨_,rfl⟩
 have q:ks.length<=M.fr.length:=by rw[x];exact P1 M t _
 have r:=z.n64;have d:=a.len;refine Z I<|AX (Hy a z t) I I I call291 I (λ_ h=>CR.WT (S:=S) h<|λe o=>o) ?_;intro c _;rw[<-x];refine A I<|Ad<|Y I<|Lm I<|U I (AM I Oi I ur)<|uG ?_;refine Bm (λ(j:Nat)=>[(0,pV bc),(5,c),(11,c),(12,aa (ks.length:Int)),(13,aa (j:Int))]) (λ(j:Nat)=>St w (dom<|S.H bc)<|AG c 284 (ON S.vF) ks::Ac bc 257 (S).cells::AG (S).vF 259 FC.enc (Oa S.fl<|ks.take j)::D1 (S).bA kI kI (S).at'::D1 (S).bL kI vS (S).ld::AG (S).vL 277 Wn.enc (S).ln::(S).rows) (λ(j:Nat)=>j<=ks.length) (λ(j:Nat)=>ks.length-j) (0) (qc _) (Si I) Ih<|λj g=>Y I<|yR ?_
 refine CB 14 I (λk=>?_)<|λk=>?_
 .obtain⟨i,hj⟩:=gE ks j;have m:i<M.fr.length:=by have:=ry hj;rw[x] at this;exact (P3.1 this).1
  have p:=W4 (ks.take j) S.fl;have b:Oa S.fl (ks.take<|j+1)=(Oa S.fl<|ks.take j).set i fE:=by unfold Oa;rw[sH,hj,tI];rfl
  refine Am I<|Ah<|Ks<|Af<|Y I<|U I (Aw j I Oi sizeOf284 I ur I I)<|U I (AO j 0 I isAgg284 I I ur hj I)<|A I<|Cr I<|Lm I<|Z I<|E1 JJ I call144 Tt<|λ_ _=>Lc I<|AQ<|Z I<|EF i fE I I Er I I I I J<|AE<|Au<|Kt<|Cr I<|U I (Qi I)<|Lm I<|AE<|Pm [1,1] I ?_
  exact AJ (j+1) J J (Si I)<|λ_ h=>by rw[b];exact h
 rw[pZ<|show ks.length<=j by omega];exact Ab I<|AP<|Aa<|Aa<|Ar<|Kt<|Y I<|Lm I<|U I (AM I Oi I ur)<|A I<|Al<|Ae<|Av I I<|λ_ h=>⟨{S with fl:=Oa S.fl ks},congrArg Ei (by rw[x,Vi]),⟨by rw[x];exact a.give z t,λ_ l=>l.give _⟩,h⟩
def Rel.zero (a h:d0) (x y n:Nat):Rel ⟨a,List.replicate n fE,x,[],y,[],h,[],0⟩ (WC n) :=
 ⟨by show (List.replicate n fE).map vw=List.replicate n Cy;rw[qZ];rfl,rfl,rfl,λb=>by
  show none=Option.map _ (B8 (Oq b)<|List.replicate n Cy)
  rw[DG<|λz c=>by rw[(rC.1 c).2];unfold Oq Cy;simp];rfl,λb=>rfl,sh,sh⟩
def Qj.zero (G:ci) (n:Nat):Qj G (List.replicate n fE):=λf h=>by rw[(rC.1 h).2];exact U0.zero _
def XhV (n:Nat) (x:α):List.replicate n x++[x]=List.replicate (n+1) x:=(List.replicate_succ' ..).symm
def c0 (v:d0) (bA bL:Nat):bi:=[v,.map<|some bA,.map<|some bL,C0,aa 0]
def zJ (n:Nat) (f:1<=n) (l:n<=64):Df prog 101 [aa (n:Int)] Tr [] (λr:Nat×CS=>.tuple #[.pointer<|some ⟨r.1,0,none⟩,aa 0]) (λr=>Rel r.2 (WC n)/\∀G,Qj G r.2.fl) (λr=>r.2.H r.1):=by
 intro w g c;refine E0 func101 I c<|Y I<|Nh I<|A I<|Ad<|Y I<|C 3 I<|Sf 7 I J<|Lm I<|U I vd<|U I (Qz I)<|Nk<|Sf 10 I J<|Ab I<|Ah<|Kt<|Y I<|Z I<|JG kI kI I I I<|λy=>Z I<|JG kI vS I I I<|λx=>U I (AS (c0 C0 y x) I I uX)<|Z I<|AT I I I I<|λbc=>Ce (c0 C0 y x) I<|A I<|Ad<|Y I<|C 2 I<|Nk<|Af<|row0 277 Wn.enc none<|row0 259 FC.enc none<|Pm [2,0,2,1] I ?_
 refine B6 (λ(i:Nat) (v:d0)=>[(4,pV bc),(15,aa (n:Int)),(16,aa (i:Int))]) (λ(i:Nat) (v:d0)=>St w [] [Ac bc 257<|c0 v y x,AG v 259 FC.enc<|List.replicate i fE,D1 y kI kI [],D1 x kI vS [],AG C0 277 Wn.enc []]) (λ(i:Nat) (v:d0)=>i<=n) (λ(i:Nat) (v:d0)=>n-i) (0) (.slice none 0 0) (qc _) (Si I) Ih<|λi v hi=>Ad ?_
 have b:(List.replicate i fE).length=i:=s9 ..;refine Cr I<|U I (Ql I)<|Ns<|CB 17 I (λd=>?_)<|λd=>?_
 .refine Am I (Ah<|Ks<|Af<|LZ (rg 11) 173745 (λe=>(Ac bc 257<|c0 v y x).at e) I St.drawn uP<|Md 3 I<|Ht Dj I F4 I<|Dq I (Aj I GO I Ih I)<|MX I<|E1 JJ I call144 Tt<|λ_ _=>Ai uP<|MX I<|As (sz:=11) [.tmp 23] I I I I I Fx Er I zeroValue259 I<|λk=>Ai uq<|AQ<|MX I<|Ap Fx Fx Xiv I (λ_ h=>AR kj FC.enc [fE] I I) A8<|λj=>Ba (XhV i fE)<|AD<|Ae<|Ai uq<|KC I<|R I I zQ<|KC I<|R I I (AU I Dj I F4 I I)<|Ux ?_);rintro⟨a,rfl⟩;refine AD<|KC I<|AB I I F4 I I I (rO I)<|Ce (c0 a.v y x) I<|AN<|HO ?_;exact AJ ((i+1,a.v)) A4 A4 (Si I) Jx
 have z:i=n:=by omega
 subst z;exact Ab I<|AP<|Aa<|Aa<|Ar<|Kt<|Y I<|C 2 I<|A I<|s<|Bw (rs:=[.tmp 2,.tmp 3]) I I<|λ_ h=>⟨(bc,⟨v,List.replicate i fE,y,[],x,[],C0,[],0⟩),rfl,⟨Rel.zero _ _ _ _ _,λG=>Qj.zero G i⟩,h⟩
def fK (H:ci):bm->ci->Option (ci)
 |[],r=>some r
 |i::is,r=>match H[i]? with
  |some x=>match fK H is r with
   |some l=>some (x::l)
   |none=>none
  |none=>none
def pkE:∀{is:bm} {r l:ci},fK H is r=some l->l=is.filterMap (λi=>H[i]?)++r
 |[],r,l,h=>by cases h;rfl
 |i::is,r,l,h=>by
  unfold fK at h
  cases hx:H[i]? with
  |none=>rw[hx] at h;cases h
  |some x =>
   rw[hx] at h
   dsimp only at h
   cases hr:fK H is r with
   |none=>rw[hr] at h;cases h
   |some q =>
    rw[hr] at h
    cases h
    rw[List.filterMap_cons,hx,pkE hr];rfl
def tkF (H:ci):∀n,(List.range n).filterMap (λi=>H[i]?)=H.take n
 |0=>rfl
 |n+1=>by
  rw[tp,List.filterMap_append,tkF H n,sH]
  cases h:H[n]? with
  |none=>simp[h]
  |some x=>simp[h]
def VG {y:ci} (k:Nat) (is:bm) (x:(is.isPerm<|List.range k,fK H is<|H.drop k)=(true,some y)) (h:Pre n L (St w0 D y) F):Pre n L (St w0 D H) F:=by
 simp only[Prod.mk.injEq] at x;refine h.world _<|λ_ s=>s.perm ?_
 rw[pkE x.2];have e:H=(List.range k).filterMap (λi=>H[i]?)++H.drop k:=by rw[tkF,qV]
 exact (List.Perm.of_eq e).trans<|(((List.isPerm_iff.1 x.1).symm).filterMap _).append_right _
abbrev p:=@VG
def W6 (z:Rel S M) (E:M.Ok B) (t b:Int) (nv:NV) (X:nv.d.Sm 65536) {u p q v:Nr} (Y:∀w,u.at w->p.at w->q.at w->v.at w->OE w nv):Df prog 268 [pV bc,aa t,aa b,.agg nv.c.toArray] Tr ([u,p,q,v]++S.H bc) (λr:CS×NV=>.bool (M.name t b nv.d).1) (λr=>Rel r.1 (M.name t b nv.d).2/\∀G,(∀e∈Bo r.2,e∈G)->Qj G S.fl->Qj G r.1.fl) (λr=>Bo r.2++[u,p,q,v]++r.1.H bc):=by
 intro w hE Q;refine enter (n:=40) (vs:=[pV bc,aa t,aa b,.agg nv.c.toArray]) (St w (dom<|u::p::q::v::S.H bc)<|u::p::q::v::CS.H bc S) func268 I I I (St.init Q) ?_;refine Cs I<|LW I<|AT I I I I<|λT=>Ce nv.c I<|Ak I<|Cs I<|Mv 2 I ?_
 obtain⟨ks,g⟩:∃ks,ks=cls M t M.fr.length:=⟨_,rfl⟩
 have j:=W2 M t;rw[<-g] at j;refine LW I<|AX (Hy z E t) I I I call291 I (λ_ h=>CR.WT (S:=S) h<|λe K=>sr _<|sr _<|sr _<|sr _<|sr _<|K) ?_;intro V _;rw[<-g];refine Ak I<|Ad<|Cs I<|Lm I<|LW I<|E1 (ZA b) I call241 Tt<|λ_ _=>Lq I (Qt I)<|Lm I<|CB 16 I (λO=>?_)<|λO=>?_
 .have x:=MY (M:=M) (t:=t) (b:=b) nv.d (by rw[O];rfl);exact Mv 10 I<|Nk<|Am I<|Cs I<|Ak I<|Al<|Ag<|Ae<|Ae<|row0 154 Ms.enc none<|row0 77 (Kv.enc 8) none<|row0 3 ds none<|row0 79 En.enc none<|Av I I<|λ_ h=>⟨(S,⟨n40,au⟩),Uw,⟨by rw[x];exact z,λ_ _ h=>h⟩,h⟩
 refine Lm I (Lq I (AM I Oi I ur)<|Mv 3 I<|MR ks (λf=>?_)<|λk r f=>?_)
 .have J:ks.length=0:=by rw[f];rfl
  refine Yf 21 I A1<|Mv 5 I<|Nk<|jS ?_;have x:=XaY (M:=M) (t:=t) (b:=b) nv.d<|by rw[j,f];rfl
  exact Ae<|Ae<|row0 154 Ms.enc none<|row0 77 (Kv.enc 8) none<|row0 3 ds none<|row0 79 En.enc none<|Av I I<|λ_ h=>⟨(S,⟨n40,au⟩),Uw,⟨by rw[x];exact z,λ_ _ h=>h⟩,h⟩
 have J:0<ks.length:=by rw[f];simp
 have hj:ks[0]?=some k:=by rw[f];rfl
 refine Sf 21 I A1<|Mv 2 I<|LW I<|E1 (Fc z E b) I call194 (λ_ h=>CR.WT (S:=S) h<|λe K=>sr _<|sr _<|sr _<|sr _<|sr _<|sr _<|K)<|λ_ _=>Lq I (Qg I)<|Lq I (Qz I)<|Nk<|Pre.PY 26 I (λl=>?_)<|λl=>?_
 .rw[RG] at l;have x:=MY (M:=M) (t:=t) (b:=b) nv.d<|by rw[<-Option.not_isSome,l,Bool.not_true,tu]
  exact Am I<|Cs I<|Ak I<|Al<|Ag<|Ae<|Ae<|row0 154 Ms.enc none<|row0 77 (Kv.enc 8) none<|row0 3 ds none<|row0 79 En.enc none<|Av I I<|λ_ h=>⟨(S,⟨n40,au⟩),Uw,⟨by rw[x];exact z,λ_ _ h=>h⟩,h⟩
 rw[RG] at l
 have o:M.find b=none:=by cases h:M.find b with
  |none=>rfl
  |some _=>rw[h] at l;cases l
 have x:=XaZ (M:=M) (t:=t) (b:=b) nv.d (by rw[O,o];rfl)<|by rw[j,f];rfl
 have A:=(P3 (M:=M) (t:=t) (i:=k) (n:=M.fr.length)).1<|by rw[<-g,f];exact rW ..
 obtain⟨U,a⟩:∃y,M.fr[k]?=some y:=⟨_,pE A.1⟩
 obtain⟨Z,N,W⟩:=z.get a;have L:=(qp.1 N).1;have D:U.st=3:=by have:=A.2;rw[Ls a] at this;unfold isC at this;simp only[qW,rA] at this;exact this.1
 refine Ab I<|Ah<|Ks<|LZ (rg 9) 17739 (λP=>(Ac T 135 nv.c).at P/\Ec P V (ON S.vF) ks) I St.drawn Tf<|Dm I<|Dq I (Aw 0 I Oi sizeOf284 I uS I I)<|Dq I (AO 0 0 I isAgg284 I I uS hj I)<|Dm I<|Dq I X8<|MX I<|EH (Iw nv X) I I I call155 I (λ_ h=>Y _ Wj Z7 (h.at 4 I)<|h.at 5 I)<|λs _=>Ai (Hb 5 4 I)<|Dq I (AS ((⟨2,b,-1,0,true,true,⟨s,nv.d⟩⟩:FC).c) I I uX)<|KC I<|OC I I zQ<|TO<|KC I<|EF k ((⟨2,b,-1,0,true,true,⟨s,nv.d⟩⟩:FC)) I I Er I I I I A1<|AN<|Kt<|Cs I<|Mv 2 I<|Lq I (Aw 0 I Oi sizeOf284 I Yp I I)<|Lq I (AO 0 0 I isAgg284 I I Yp hj I)<|VG 15 [6,7,8,9,10,11,0,12,13,14,1,2,3,4,5] I ?_
 refine Pm [10,10,10,10,10] I ?_;have C:({S with fl:=S.fl.set k (⟨2,b,-1,0,true,true,⟨s,nv.d⟩⟩:FC)}:CS).fl[k]?=some (⟨2,b,-1,0,true,true,⟨s,nv.d⟩⟩:FC):=tE L
 have m:({S with fl:=S.fl.set k (⟨2,b,-1,0,true,true,⟨s,nv.d⟩⟩:FC)}:CS).fl.length<=65536:=by
  show (S.fl.set k _).length<=_
  rw[sI,z.len];have:=E.n64;omega
 refine Pw (St _ _<|_::_::_::_::_::_::_::_::_::_::CS.H bc ({S with fl:=S.fl.set k (⟨2,b,-1,0,true,true,⟨s,nv.d⟩⟩:FC)}:CS)) ?_;refine LW I<|Ee [_,_,_,_,_,_,_,_,_,_] (Lw (S:=({S with fl:=S.fl.set k (⟨2,b,-1,0,true,true,⟨s,nv.d⟩⟩:FC)}:CS)) C m) I call246 Tt<|λ_ _=>Pw (St _ _<|_::_::_::_::_::_::_::_::_::_::CS.H bc (({S with fl:=S.fl.set k (⟨2,b,-1,0,true,true,⟨s,nv.d⟩⟩:FC),at':=C4 b (k:Int) S.at'}:CS))) ?_
 exact Nk<|Cs I<|Ak I<|Al<|Cd<|Ae<|Cd<|Ae<|Av I I<|λ_ h=>⟨(({S with fl:=S.fl.set k (⟨2,b,-1,0,true,true,⟨s,nv.d⟩⟩:FC),at':=C4 b (k:Int) S.at'}:CS),⟨s,nv.d⟩),Uw,⟨by rw[x];exact z.new a (by rw[D];decide) o I I<|.inr I,λG F R=>R.set<|.of F⟩,h⟩
def XeV (a:Rel S M) (x:M.Ok B) (t:Int):Df prog 262 [pV bc,aa t] Tr (S.H bc) (λ_:Unit=>aa (M.claims t:Int)) Tr (λ_=>S.H bc):=by
 intro w f c;refine enter (n:=9) (vs:=[pV bc,aa t]) (St w (dom<|S.H bc)<|CS.H bc<|S) func262 I I I (St.init c) ?_;refine Y I<|A I<|Y I<|C 2 I ?_;have y:=P1 M t M.fr.length;have b:=x.n64;exact Z I<|AX (Hy a x t) I I I call291 I (λ_ h=>CR.WT (S:=S) h<|λe z=>z)<|λd _=>U I (AM I Oi I ur)<|A I<|s<|Ae<|Av I I<|λ_ h=>⟨(),congrArg Ei (by rw[Vi]),T0,h⟩
def Xfh (z:Rel S M) (a:M.Ok B) (b:Int):Df prog 196 [pV bc,aa b] Tr (S.H bc) (λ_:Unit=>.bool (M.Me b 2).isSome) Tr (λ_=>S.H bc):=by
 intro w d c;refine enter (n:=9) (vs:=[pV bc,aa b]) (St w (dom<|S.H bc)<|CS.H bc<|S) func196 I I I (St.init c) ?_;refine Y I<|A I<|Y I<|C 2 I<|Z I<|E1 (F9 z a b 2) I call165 (λ_ h=>CR.WT (S:=S) h<|λe y=>y)<|λ_ _=>Cu (M.Me b 2) (λx=>?_)<|λi x=>?_
 .exact LH 7 av I zc ZCR
 exact LH 7 (fp S.vF i) I zc ZCR
section
variable {P:d8} {n:Nat} {L:Env} {X:aU} {o:Oper} {α:Type} {E:Enc α} {l:List α} {v:d0}
def BK {t:d4} {off sz:Nat} (us:bi) (j k:Nat) {a:α} (g:o.op=.load t x) (i:∀w,(isAgg t).run P w=.ok true w) (z:∀w,(sizeOf t).run P w=.ok sz w) (c:ev L x=some (.pointer<|some ⟨blk v,off,none⟩)) (h:off=Gl v+j*E.sz+k)
 (y:∀w,X w->Ec w v E l) (e:l[j]?=some a) (b:k+sz<=E.sz) (d:((E.f a).drop k).take sz=us):MV P n L X o (.agg us.toArray):=d▸Ij j k g i z c h y e b
def XbX {Q:aB} {K:aO} {w0:d7} {D:bm} {H:ci} {t e:d4} (E:Enc α) (m:Nat) {i:TypeInfo} {x y:d5} {z:d0} {d:Nat} {j k:d6} {p q:Int} (R:o.op=.makeSlice t x y) (hd:o.dst=some d) (V:d.blt n) (S:P.underlying t=some (.slice e))
 (hi:P.info? e=some i) (U:i.size=E.sz) (C:i.zero=some z) (T:z.cells.size=E.sz) (N:ev L x=some (.int j p)) (X:ev L y=some (.int k q)) (G:p=0) (O:q=(m:Int)) (hm:m*i.bytes<=281474976710656) (F:m<=9223372036854775807)
 (h:∀v,Pre n ((d,v)::L) (St w0 D<|AG v e E []::H) K):Nl P n L (St w0 D H) o Q K :=
 Nl.val (β:=d0) (λv=>v) Tr (λv=>St w0 D<|AG v e E []::H) hd V (λa w u x=>by
  subst G;subst O
  have l:IntKind.i64.wrap (m:Int)=(m:Int):=Co A1
  have s:IntKind.i64.wrap (0:Int)=(0:Int):=A2
  have r:(zeroValue e).run P w=.ok z w:=by simp[zeroValue,typeInfo,hi,C]
  have b:(Instr.makeSlice t (.int j 0)<|.int k (m:Int)).run P w=.ok (.slice (some ⟨w.heap.size,0,none⟩) 0 m) (w.alloc (.cells ((Array.range<|m*E.sz).map (z.cells[·%z.cells.size]!)) e)):=by
   have A:¬((i.bytes:Int)*(m:Int)>2^48):=by
    have Y:i.bytes*m<=281474976710656:=by rw[qe];exact hm
    have J:((i.bytes*m:Nat):Int)<=281474976710656:=A1;rw[sF] at J;omega
   have g:¬((m:Int)<0):=A1;have B:¬((0:Int)>(m:Int)):=A1;unfold Instr.makeSlice;simp only[qC,Be S,qE,asInt,asIntOf,qD,Sem.run_map,typeInfo,run_program,hi,l,s];simp[A,g,B,run_askRoom,sizeOf,typeInfo,run_program,hi,U,EB,r];have M:¬(281474976710656:Int)<(i.bytes:Int)*(m:Int):=A;rw[pQ M];split
   .rename_i h0;have c:∀f:Nat->d0,(Array.range 0).map f=#[]:=λf=>A3
    rw[h0,c,c]
   rfl
  refine⟨.slice (some ⟨w.heap.size,0,none⟩) 0 m,w.alloc (.cells ((Array.range<|m*E.sz).map (z.cells[·%z.cells.size]!)) e),by simp only[execOp,R,u.eval N,u.eval X,qC,b,qE,qD],T0,?_⟩;by_cases h0:m=0
  .subst h0;exact (x.alloc (φ:=λ_=>True) trivial).free I<|.inl ⟨_,rfl,rfl⟩
  have W:Dv (.slice (some ⟨w.heap.size,0,none⟩) 0 m)=some w.heap.size:=by simp[Dv,h0]
  have g:=x.alloc (φ:=Row (.slice (some ⟨w.heap.size,0,none⟩) 0 m) e E []) (o:=.cells ((Array.range<|m*E.sz).map (z.cells[·%z.cells.size]!)) e) (.inr ⟨w.heap.size,m,[],((Array.range<|m*E.sz).map (z.cells[·%z.cells.size]!)).toList,rfl,A1,by rw[Enc.flat_nil,qU,qU,Array.toArray_toList],qc _,A3⟩);rw[<-W] at g
  exact g)<|λv _=>h v
end
def Dl (l:ct):Prop:=l.Pairwise<|λa b=>Bs a.key b.key<0
def Dn (l:ct) (k:c3):Nat:=(l.takeWhile<|λe=>decide (Bs e.key k<0)).length
def V3 (l:ct) (k:c3):Bool:=match l[Dn l k]? with|some e=>decide (e.key=k)|none=>false
def Da (l:ct) (k:c3):Kv 16×Bool:=match l[Dn l k]? with|some e=>if e.key=k then (e.val,true) else (Na 16,false)|none=>(Na 16,false)
def Hz (l:ct) (m:Ms):ct:=if (F8 (Da l m.key).1 (Da l m.key).2 m).2=true then [⟨m.key,(F8 (Da l m.key).1 (Da l m.key).2 m).1⟩] else []
def Dw (l:ct) (m:Ms):ct:=l.take (Dn l m.key)++Hz l m++l.drop (Dn l m.key+(if V3 l m.key=true then 1 else 0))
def BZ (l:ct) (ms:cp):ct:=ms.foldl Dw l
def S9 (e:En):Int:=2+e.key.n+e.val.n
def lby (l:ct):Int:=(l.map S9).sum
def FN (l:ct) (i:Nat):Bool:=match l[i]? with
 |some e=>OI e.key&&Qd e.val&&(match i,l[i-1]? with|0,_=>true|_,some d=>decide (Bs d.key e.key<0)|_,none=>true)
 |none=>true
def Uc (l:ct):Bool:=(List.range l.length).all<|FN l
def ed (hi:i<=l.length) (y:∀j e,j<i->l[j]?=some e->Bs e.key k<0) (a:∀e,l[i]?=some e->¬Bs e.key k<0):Dn l k=i:=by
 unfold Dn;have z:l.take i++l.drop i=l:=qV i l
 have b:∀e∈l.take i,decide (Bs e.key k<0)=true:=λe h=>by
  obtain⟨j,hj⟩:=tj.1 h;rw[pM] at hj;split at hj
  .rename_i hlt;exact sT<|y j e hlt hj
  cases hj
 rw[<-z,List.takeWhile_append_of_pos b]
 have hd:(l.drop i).takeWhile (λe=>decide (Bs e.key k<0))=[]:=by
  exact Xd2
 rw[hd,sG,pI];omega
def CV {R:α->α->Prop} {l:List α} (h:l.Pairwise R) (i j:Nat) (a b:α) (x:i<j) (z:l[i]?=some a) (y:l[j]?=some b):R a b:=by
 obtain⟨hi,rfl⟩:=qp.1 z;obtain⟨hj,rfl⟩:=qp.1 y;exact tK.1 h i j hi hj x
def XbY {R:α->α->Prop} {l:List α} (h:∀(i j:Nat) (a b:α),i<j->l[i]?=some a->l[j]?=some b->R a b):l.Pairwise R:=by
 rw[tK];intro i j y z x;exact h i j (l[i]'y) (l[j]'z) x A3 A3
def XhW {R:α->α->Prop} {l:List α}:l.Pairwise R↔∀(i j:Nat) (a b:α),i<j->l[i]?=some a->l[j]?=some b->R a b:=⟨CV,XbY⟩
def KU (e:Dl l) {k:c3} {i j:Nat} {a b:En} (d:i<=j) (z:l[i]?=some a) (x:l[j]?=some b) (h:Bs b.key k<0):Bs a.key k<0:=by
 exact ZAD
def Vn (l:ct) (k:c3):Dn l k<=l.length:=(tL _).length_le
def P4 (h:V3 l k):∃e,l[Dn l k]?=some e/\e.key=k/\Da l k=(e.val,true):=by
 unfold V3 at h;cases h2:l[Dn l k]? with
 |none=>rw[h2] at h;cases h
 |some e =>
  rw[h2] at h;have x:=sW h;exact⟨e,rfl,x,by unfold Da;rw[h2];simp[x]⟩
def Xct (h:V3 l k=false):Da l k=(Na 16,false):=by
 unfold V3 at h;unfold Da;cases h2:l[Dn l k]? with
 |none=>rfl
 |some e=>rw[h2] at h;have x:=of_decide_eq_false h;simp[x]
def R0 (l:ct) (m:Ms):(Dw l m).length<=l.length+1:=by
 unfold Dw Hz;rw[pK,pK,pI,pJ];have:=Vn l m.key;split<;>(try simp)<;>omega
def MZ:∀(ms:cp) (l:ct),(BZ l ms).length<=l.length+ms.length
 |[],l=>qb _
 |m::ms,l=>by
  have x:=MZ ms<|Dw l m
  have h:=R0 l m
  show (BZ (Dw l m) ms).length<=_
  simp only[pz];omega
def OU {p:α->Bool}:∀{l:List α} {j:Nat} {e:α},j<(l.takeWhile p).length->l[j]?=some e->p e=true
 |[],j,e,h,_=>yF
 |x::l,j,e,h,he=>by
  rw[tJ] at h
  by_cases hx:p x=true
  .rw[pN hx] at h
   cases j with
   |zero=>simp at he;subst he;exact hx
   |succ j=>exact OU (l:=l) sv<|by simpa using he
  .rw[pQ hx] at h;simp at h
def IZ {p:α->Bool}:∀{l:List α} {e:α},l[(l.takeWhile p).length]?=some e->p e=false
 |[],e,h=>yF
 |x::l,e,h=>by
  by_cases hx:p x=true
  .rw[tJ,pN hx,pz,rr] at h
   exact IZ h
  .rw[tJ,pQ hx] at h;simp at h;subst h;simpa using hx
def XfK {j:Nat} (hj:j<Dn l k) (h:l[j]?=some e):Bs e.key k<0:=sW<|OU (p:=λe:En=>decide (Bs e.key k<0)) hj h
def L6 (a:Dl l) {j:Nat} {e:En} (hj:Dn l k<=j) (x:l[j]?=some e):¬Bs e.key k<0:=λh=>by
 have y:=(qp.1 x).1
 obtain⟨d,hd⟩:=gE l<|Dn l k
 have z:=KU a hj hd x h
 have b:=IZ (p:=λe:En=>decide (Bs e.key k<0))<|show l[(l.takeWhile (λe:En=>decide (Bs e.key k<0))).length]?=some d from hd
 exact of_decide_eq_false b z
def Ly (l:ct) (k:c3) (s:Dl l) (F:l.length<=65536):Df prog 158 [va,.agg k.c.toArray] (λw=>Ec w va En.enc l) [] (λ_:Unit=>.tuple #[aa (Dn l k:Int),.bool<|V3 l k]) Tr (λ_=>[]):=by
 intro w i A;refine E0 func158 I A<|Cs I<|LW I<|AT I I I I<|λbk=>Ce k.c I<|Nh I<|Ak I<|Cs I<|Lm I<|Lq I (AM I O8 I i.kp)<|Lq I (AS ([aa 0,aa (l.length:Int)]) I I uX)<|LW I<|Ax I I I zeroValue324<|λo=>Ce [aa 0,aa 0] I<|LW I<|AF rfl rfl sizeOf324 rfl rfl rfl (λv t=>by simp at t;rcases t with rfl|rfl<;>rfl) wJ (Ce [aa ap,aa (l.length:Int)] I<|Ns<|Af ?_)
 refine B6 (λ(lo:Nat) (hi:Nat)=>[(0,va),(3,pV bk),(6,pV o)]) (λ(lo:Nat) (hi:Nat)=>St w [] [Ac o 324 [aa (lo:Int),aa (hi:Int)],Ac bk 77 k.c]) (λ(lo:Nat) (hi:Nat)=>lo<=hi/\hi<=l.length/\(∀j e,j<lo->l[j]?=some e->Bs e.key k<0)/\∀j e,hi<=j->l[j]?=some e->¬Bs e.key k<0) (λ(lo:Nat) (hi:Nat)=>hi-lo) (0) l.length ⟨qc _,qb _,λj e h=>absurd h<|s6 _,λj e E B=>by have:=(qp.1 B).1;omega⟩ (Si I) Jx ?_;intro lo hi u;refine Ad<|Ad ?_;obtain⟨C,m,f,d⟩:=u;refine Cr I<|Lq I jQ<|Lo G3 0 I<|Lq I (Bv 1 I TE Z3 I I I)<|Lo G3 0 I<|Lq I (Ql I)<|Nk<|CB 17 I (λr=>?_)<|λr=>?_
 .obtain⟨mid,D⟩:∃mid:Nat,mid=(lo+hi)/2:=⟨_,rfl⟩
  have n:((lo:Int)+(hi:Int))/2=(mid:Int):=A1;obtain⟨c,y⟩:=gE l mid;refine Am I<|Ah<|Kt<|Af<|Ad<|LZ (rg 8) 0 (λa=>(Ac o 324 [aa (lo:Int),aa (hi:Int)]).at a) I St.drawn uP<|Dq I jQ<|Dq I xB<|Dq I (Bv 1 I TE Z3 I I I)<|Dq I xB<|Dq I py<|Dq I xg<|Md 2 I<|AN<|Ks<|Ad<|LH 8 (aa (mid:Int)) I (by rw[n])<|LZ (rg 8) 729 (λa=>(Ac bk 77 k.c).at a/\Ec a va En.enc l) I St.drawn (Hd 1 I i.kp)<|Md 2 I<|Dq I (Aw mid I O8 Qc I (λ_ h=>h.2) I I)<|Ht Rj I MW I<|Dq I (BK c.key.c mid 0 I OO MW I I (λ_ h=>h.2) y (by decide)<|En.pd _) ?_;refine Dq I ZIA<|MX I<|E1 (G6 c.key k) I call162 Tt<|λ_ _=>Ai (Hd 1 I i.kp)<|Dq I (Ql I)<|AN<|Kt<|CB 31 I (λq=>?_)<|λq=>?_
  .refine Am I (Cr I<|Lm I<|Lq I (Qi I)<|Nh I<|Ak I<|Cr I<|Mv 2 I<|Lq I jQ<|LW I<|AB I I Z3 I I I (by show 0<2;decide)<|Ce [aa ((mid+1:Nat):Int),aa (hi:Int)] I<|AE<|Au ?_);exact AJ ((mid+1,hi)) A4 ⟨A4,m,λj e hj g=>KU s (by dsimp only at hj;omega) g y q,d⟩ (Si I) Jx
  refine Ab I (Ah<|Kt<|Cr I<|Mv 2 I<|Lq I (Bv 1 I TE Z3 I I I)<|LW I<|AB I I Z3 I I I (by show 1<2;decide)<|Ce [aa (lo:Int),aa (mid:Int)] I<|AE<|Au ?_);exact AJ ((lo,mid)) A4 ⟨A4,A4,f,λj e hj g h=>q<|KU s hj y g h⟩ (Si I) Jx
 have x:Dn l k=lo:=ed A1 f (λe g=>d lo e A1 g);refine Ab I<|AP<|Aa<|Aa<|Ar<|Kt<|Cs I<|Lq I jQ<|Lo G3 0 I<|Ak I<|Ad<|LZ (rg 16) 0 (λa=>(Ac bk 77 k.c).at a/\Ec a va En.enc l) I St.drawn (Hd 1 I i.kp)<|Md 3 I<|Dq I (AM I O8 I<|λ_ h=>h.2)<|Md 2 I<|CB 44 I (λp=>?_)<|λp=>?_
 .obtain⟨c,b⟩:=gE l lo;refine Md 2 I<|Dq I (Aw lo I O8 Qc I (λ_ h=>h.2) I I)<|Ht Rj I MW I<|Dq I (BK c.key.c lo 0 I OO MW I I (λ_ h=>h.2) b (by decide)<|En.pd _)<|Dq I ZIA<|Dq I (YW c.key k I I I)<|Md 3 I<|AN<|Kt<|Al ?_;have z:V3 l k=decide (c.key=k):=by unfold V3;rw[x,b]
  exact ZEB
 have z:V3 l k=false:=by unfold V3;rw[x,pH A1]
 exact Md 10 I<|AN<|Kt<|Al ZEB
def TX (l:ct) (k:c3) (d:Dl l) (e:l.length<=65536):Df prog 181 [va,.agg k.c.toArray] (λw=>Ec w va En.enc l) [] (λ_:Unit=>.tuple #[.agg (Da l k).1.c.toArray,.bool (Da l k).2]) Tr (λ_=>[]):=by
 intro w y b;obtain⟨i,hi⟩:∃i,i=Dn l k:=⟨_,rfl⟩
 refine E0 func181 I b<|Y I<|Z I<|AT I I I I<|λbk=>Ce k.c I<|Z I<|Ax I I I zeroValue56<|λj=>Ce (Na 16).c I<|A I<|Y I<|r I<|U I yo<|Z I<|E1 (Ly l k d e) I call158 y.kp ?_
 intro _ _;rw[<-hi];refine C 4 I<|A I<|Ad<|Y I<|C 2 I<|G<|CB 15 I (λx=>?_)<|λx=>?_
 .have a:=Xct x;exact Am I<|Y I<|U I Yk<|Z I<|AF I I O6 I I Nw PU vZ<|Ce (Na 16).c YL<|A I<|s<|Ag ZHC
 obtain⟨c,z,f,a⟩:=P4 x;rw[<-hi] at z;have g:=(qp.1 z).1;exact Ab I<|Ah<|Kt<|Y I<|C 2 I<|U I (Aw i I O8 Qc I y.kp I I)<|N Rj I O6 I<|U I (BK c.val.c i 9 I Tz O6 I I y.kp z A2 yO)<|Z I<|AF I I O6 I I Nw PU vZ<|Ce c.val.c YL<|A I<|s ZHC
def En.fU (e:En) (v:Kv 16):Sep.splice e.c 9 v.c=(⟨e.key,v⟩:En).c:=by
 unfold En.c;have:=Hv (a:=e.key.c) (b:=e.val.c) (c:=[]) (vs:=v.c) (k:=9) Nw jF;simpa using this
def en0:En:=⟨Na 8,Na 16⟩
def XhX (key:c3) (w:d7):(Instr.build 79 #[(0,.agg key.c.toArray)]).run prog w=.ok (.agg (⟨key,Na 16⟩:En).c.toArray) w:=by
 obtain⟨a,b,c,d,e,f,g,h,x⟩:=G1 key;unfold En.c Kv.c;rw[x]
 kernel_rfl
def W7 (l:ct) (m:Ms) (t:Dl l) (F:l.length<=60000):Df prog 108 [va,.agg m.c.toArray] (λw=>Ec w va En.enc l) [] (λv:d0=>v) Tr (λv=>[AG v 79 En.enc<|Dw l m]):=by
 intro w y q;obtain⟨i,hi⟩:∃i,i=Dn l m.key:=⟨_,rfl⟩
 have b:i<=l.length:=by rw[hi];exact Vn _ _
 refine E0 func108 I q<|Cs I<|LW I<|AT I I I I<|λs=>Ce m.c I<|Ak I<|Cs I<|Lm I<|EJ BR I MW I<|Lq I xy<|LW I<|E1 (Ly l m.key t<|by omega) I call158 y.kp ?_
 intro _ _;rw[<-hi];refine Mv 4 I<|Ak I<|Ad<|LZ (rg 9) 16038 (λd=>(Ac s 154 m.c).at d/\Ec d va En.enc l) I St.drawn YB<|Ht BR I MW I<|Dq I (AH m.key.c I OO MW I uO Wq Nw)<|Dq I (AS ((⟨m.key,Na 16⟩:En).c) I I<|λw=>XhX _ w)<|Md 2 I<|Dq I (DC i I O8 Qc I uS I I<|by omega)<|MX I<|Ax I I I zeroValue79<|λE=>Ce en0.c I<|Ai (Hd 1 I y.kp)<|MX I<|AF I I Qc I I YQ (En.one _) (by simp only[En.oQ];decide)<|Ce (⟨m.key,Na 16⟩:En).c (Sep.oR<|by simp only[En.oQ])<|Ai (Hd 1 I y.kp)<|KC I<|OC I I uW<|AN<|Ks<|Cs I<|Lm I<|Nk ?_
 refine Pre.PY 24 I (λz=>?_)<|λz=>?_
 .obtain⟨c,j,A,n⟩:=P4 z;rw[<-hi] at j;have B:=(qp.1 j).1;refine Am I<|LZ (rg 12) 413343 (λd=>Ec d va En.enc l) I St.drawn y.kp<|Md 2 I<|Dq I (Aw i I O8 Qc I Ih I I)<|Ht Rj I O6 I<|Dq I (BK c.val.c i 9 I Tz O6 I I Ih j (by decide)<|En.WU _)<|Md 2 I<|Dq I (Qi I)<|Dq I (DC (i+1) I O8 Qc I Ih I I<|by omega)<|Ht Rj I O6 I<|MX I<|AF I I O6 I I Nw PU oI<|Bb (En.fU _ _)<|Ai y.kp<|KC I<|OC I I uW<|AN<|Kt<|Cs I<|Ak I<|Ad<|LZ [0,1,2,4,5,6,3,7,8] 18225 (λd=>Ec d va En.enc l) I St.drawn y.kp ?_;refine Dm I<|Dq I (AM I O8 I Ih)<|Dq I (Qi I)<|Md 2 I<|Dq I (EG i I O8 Qc I Ih I I<|by omega) ?_;have e:F8 (Da l m.key).1 (Da l m.key).2 m=F8 c.val true m:=by rw[n]
  obtain⟨r,g⟩:∃r,r=F8 c.val true m:=⟨_,rfl⟩
  have x:Dw l m=l.take i++(if r.2=true then [(⟨m.key,r.1⟩:En)] else [])++l.drop (i+1):=by
   unfold Dw Hz;rw[e,<-hi,<-g,z];rfl
  have k:(l.take i).length<=i:=tt _ _;refine MX I<|XbX En.enc (l.length+1) I I I O8 Ep I I I I I I I zl (by omega)<|λo=>Ai y.kp<|KC I<|Ap O8 O8 Ep I (λ_ h=>ZDJ) A8<|λu=>KC I<|OC I I uW<|AN<|Ks<|Cs I<|EJ Rj I O6 I<|Lq I (Cq ((⟨m.key,c.val⟩:En).val.c) Tz O6 1 I (En.WU _) Nw)<|Lm I<|Lq I (Cq m.c Ck Bi 2 I (BF _) OM)<|Ba (l':=l.take i) A3<|LH 46 (.bool true) I U8<|LW I<|E1 (Iu c.val true m) I call159 Tt ?_
  intro _ _;rw[<-g];refine Mv 3 I<|EJ Rj I O6 I<|AD<|LW I<|AF I I O6 I I Nw PU oI<|Bb (En.fU _ _)<|Ak I<|Cs I<|Lm I<|Nk<|Pre.PY 52 I (λa=>?_)<|λa=>?_
  .exact Am I<|Cr I<|Lm I<|Lq I ZEI<|LW I<|As (sz:=26) [.tmp 54] I I I I I O8 Qc I zeroValue79 ny<|λC=>AQ<|LW I<|Ap O8 O8 Ep I ZGo A8<|λp=>AD<|Ae<|Ak I<|Cs I<|Mv 2 I<|LW I<|B0 I I I O8 O8 Ep I I I I I (λ_ h=>by have:=Cg (y.keep h A3) (lo:=i+1) (hi:=l.length) (by omega)<|qb _;rwa[tg] at this) (by simp only[Jo];simp;omega) gg vD
  exact Ab I<|Ah<|Kt<|Cs I<|Mv 2 I<|AD<|LW I<|B0 I I I O8 O8 Ep I I I I I (λ_ h=>by have:=Cg (y.keep h A3) (lo:=i+1) (hi:=l.length) (by omega)<|qb _;rwa[tg] at this) (by simp only[Jo];simp;omega) gg vD
 have n:=Xct z;refine Ab I<|Ah<|Kt<|Cs I<|Ak I<|Ad<|LZ [0,1,2,4,5,6,3,7,8] 18225 (λd=>Ec d va En.enc l) I St.drawn y.kp<|Dm I<|Dq I (AM I O8 I Ih)<|Dq I (Qi I)<|Md 2 I<|Dq I (EG i I O8 Qc I Ih I I<|by omega) ?_;have e:F8 (Da l m.key).1 (Da l m.key).2 m=F8 (Na 16) false m:=by rw[n]
 obtain⟨r,g⟩:∃r,r=F8 (Na 16) false m:=⟨_,rfl⟩
 have x:Dw l m=l.take i++(if r.2=true then [(⟨m.key,r.1⟩:En)] else [])++l.drop (i+0):=by
  unfold Dw Hz;rw[e,<-hi,<-g,z];rfl
 have k:(l.take i).length<=i:=tt _ _;refine MX I<|XbX En.enc (l.length+1) I I I O8 Ep I I I I I I I zl (by omega)<|λo=>Ai y.kp<|KC I<|Ap O8 O8 Ep I (λ_ h=>ZDJ) A8<|λu=>KC I<|OC I I uW<|AN<|Ks<|Cs I<|EJ Rj I O6 I<|Lq I (Cq ((⟨m.key,Na 16⟩:En).val.c) Tz O6 1 I (En.WU _) Nw)<|Lm I<|Lq I (Cq m.c Ck Bi 2 I (BF _) OM)<|Ba (l':=l.take i) A3<|LH 46 (.bool false) I U8<|LW I<|E1 (Iu (Na 16) false m) I call159 Tt ?_
 intro _ _;rw[<-g];refine Mv 3 I<|EJ Rj I O6 I<|AD<|LW I<|AF I I O6 I I Nw PU oI<|Bb (En.fU _ _)<|Ak I<|Cs I<|Lm I<|Nk<|Pre.PY 52 I (λa=>?_)<|λa=>?_
 .exact Am I<|Cr I<|Lm I<|Lq I ZEI<|LW I<|As (sz:=26) [.tmp 54] I I I I I O8 Qc I zeroValue79 ny<|λD=>AQ<|LW I<|Ap O8 O8 Ep I ZGo A8<|λp=>AD<|Ae<|Ak I<|Cs I<|Mv 2 I XdX
 exact Ab I<|Ah<|Kt<|Cs I<|Mv 2 I<|AD XdX
def J9 (l:ct) (ms:cp):Prop:=∀i,i<=ms.length->Dl (BZ l<|ms.take i)
def W8 {ms:cp} (h:ms[i]?=some m):BZ l (ms.take<|i+1)=Dw (BZ l<|ms.take i) m:=by
 unfold BZ;rw[sH,h,tI];rfl
def GQ (h:l[i]?=some e):((l.take<|i+1).map S9).sum=((l.take i).map S9).sum+S9 e:=by
 rw[sH,h,qR,List.sum_append];simp
def En.Bd (e:En):Prop:=-1000<=e.key.n/\e.key.n<=1000/\-1000<=e.val.n/\e.val.n<=1000
def P5 (h:∀e∈l,e.Bd) (i:Nat) : -2000*(i:Int)<=((l.take i).map S9).sum/\((l.take i).map S9).sum<=2002*(i:Int):=by
 induction i with
 |zero=>simp
 |succ i ih =>
  cases hx:l[i]? with
  |none=>rw[sH,hx];simp only[Option.toList,sG];omega
  |some e =>
   rw[GQ hx];have:=h e<|ry hx;unfold En.Bd at this;have x:S9 e=2+e.key.n+e.val.n:=rfl;omega
def On {α:Type} (own:Bool) (v:d0) (t:d4) (E:Enc α) (l:List α):Nr:=if own=true then AG v t E l else⟨none,λ_=>True⟩
def L7 {w:d7} {x:Bool} {v:d0} {t:d4} {E:Enc α} {l:List α} (h:St w0 D H w) (i:Nat) (hi:H[i]?=some (On x v t E l)) (y:x=false->Ec w v E l):Ec w v E l:=by
 cases x with
 |true=>exact h.rd i hi
 |false=>exact y rfl
def XaD (v:d0) (t:d4) (E:Enc α) (l:List α) (k:Pre n L (St w0 D<|On false v t E l::H) F):Pre n L (St w0 D H) F:=k.world _<|λw s=>s.add (e':=On false v t E l) rfl trivial
def XfL {g:d0} (l:ct) (ms:cp) (s:J9 l ms) (D:l.length+ms.length<=60000):Df prog 58 [va,g] (λw=>Ec w va En.enc l/\Ec w g Ms.enc ms) [] (λb:d0×Bool=>b.1) (λb=>(ms≠[]->b.2=true)/\(b.2=false->b.1=va/\ms=[])) (λb=>[On b.2 b.1 79 En.enc<|BZ l ms]):=by
 intro w t n;obtain⟨u,hm⟩:=t;refine E0 func58 I n<|Y I<|Ak I<|Ad<|Y I<|Lm I<|U I (AM I BH I hm.kp)<|Lm I<|G<|Af<|XaD va 79 En.enc l ?_;refine Fm (λ(i:Nat) (x:Bool) (v:d0)=>[(0,v),(7,g),(8,aa (ms.length:Int)),(9,aa (i:Int))]) (λ(i:Nat) (x:Bool) (v:d0)=>St w [] [On x v 79 En.enc<|BZ l<|ms.take i]) (λ(i:Nat) (x:Bool) (v:d0)=>i<=ms.length/\(0<i->x=true)/\(x=false->v=va/\i=0)) (λ(i:Nat) (x:Bool) (v:d0)=>ms.length-i) (0) false va ⟨qc _,λh=>absurd h<|Nat.lt_irrefl _,λ_=>⟨rfl,rfl⟩⟩ (Si I) Ih<|λi x v o=>Ad ?_
 obtain⟨hi,d,y⟩:=o;have k:=MZ (ms.take i) l;have q:=tt i ms;refine Cr I<|U I (Ql I)<|Ns<|CB 10 I (λp=>?_)<|λp=>?_
 .obtain⟨m,a⟩:=gE ms i;have j:=W8 (l:=l) a;refine Am I<|Ah<|Ks<|Af<|Y I<|U I (Aw i I BH Bi I hm.kp I I)<|U I (Bc i I Ck Bi I I hm.kp a)<|Z I<|Ax I I I zeroValue154<|λC=>Ce ms0.c I<|Z I<|AF I I Bi I I OM RZ xa<|Ce m.c yj<|G<|Cr I<|Lm I<|U I xT<|Z I<|AX (W7 (BZ l<|ms.take i) m (s i hi) J) rfl rfl rfl call108 rfl (λ_ h=>L7 h 1 rfl (λe=>by obtain⟨A,r⟩:=y e;subst A;subst r;exact u.keep h A3)) (λB _=>Nh I<|AE<|Au<|Kt<|Cr I<|U I (Qi I)<|Lm I<|AE<|Xo ?_)
  exact AJ ((i+1,true,B)) (by dsimp only;omega) ⟨by dsimp only;omega,λ_=>rfl,λe=>zZ⟩ (Si I)<|λ_ h=>by dsimp only;rw[j];exact h
 exact XdM
def XbZ (e:En):e.c[0+9+0]?=some (aa e.val.n):=by
 unfold En.c;rw[pO xR,Kv.oQ];rfl
def M0 (e:En) (x:e.Bd):Df prog 308 [.agg e.c.toArray] Tr [] (λ_:Unit=>aa<|S9 e) Tr (λ_=>[]):=by
 intro w a y;obtain⟨b,f,z,d⟩:=x;refine E0 func308 I y ?_;exact Y I<|Z I<|AT I I I I<|λg=>Ce e.c I<|A I<|Y I<|N Rj I MW I<|N Pn I Z3 I<|Lo G3 0 I<|U I py<|N Rj I O6 I<|N VX I Z3 I<|U I (Aj I G3 I uP<|XbZ _)<|U I py XF
def Lz (l:ct) (f:∀e∈l,e.Bd) (p:l.length<=60000):Df prog 307 [va] (λw=>Ec w va En.enc l) [] (λ_:Unit=>aa<|lby l) Tr (λ_=>[]):=by
 intro w a j;refine E0 func307 I j<|Y I<|A I<|Y I<|A I<|Ad<|Y I<|r I<|U I (AM I O8 I a.kp)<|uG ?_;refine Bm (λ(i:Nat)=>[(3,aa ((l.take i).map S9).sum),(6,va),(7,aa (l.length:Int)),(8,aa (i:Int))]) (λ(i:Nat)=>St w [] []) (λ(i:Nat)=>i<=l.length) (λ(i:Nat)=>l.length-i) (0) (qc _) (Si I) Ih<|λi hi=>Ad ?_
 have k:=P5 f i;refine Cr I<|U I (Ql I)<|Ns<|CB 9 I (λm=>?_)<|λm=>?_
 .obtain⟨c,b⟩:=gE l i;have x:=f c<|ry b;have z:=x;unfold En.Bd at z;have d:=GQ b;have g:S9 c=2+c.key.n+c.val.n:=rfl;refine Am I<|Ah<|Ks<|Af<|Y I<|U I oG<|U I (Bc i I Yc Qc I I a.kp b)<|Z I<|Ax I I I zeroValue79<|λo=>Ce en0.c I<|Z I<|AF I I Qc I I YQ (En.one _) ZCz<|Ce c.c ZFy<|G<|Cr I<|r I<|U I (Cq c.c Yc Qc 0 I (En.whole _) YQ)<|Z I<|E1 (M0 c x) I call308 Tt<|λ_ _=>U I py<|Nh I<|AE<|hJ ?_
  exact AJ (i+1) J J (Sub.RJ I Yr<|Si I) Jx
 have y:l.take i=l:=pZ J;exact Ab I<|AP<|Aa<|Aa<|Ar<|Kt<|Y I<|r I<|A I<|s<|Av I I<|λ_ h=>⟨(),congrArg Ei zd,T0,h.oS⟩
def TY (hi:i<l.length) (h:FN l i=false):Uc l=false:=by
 unfold Uc;rw[tM];exact⟨i,qm.2 hi,wz⟩
def ee (h:∀i,i<l.length->FN l i=true):Uc l=true:=by
 unfold Uc;rw[rT];exact λi hi=>h i<|qm.1 hi
def ei (h:l[0]?=some c):FN l 0=(OI c.key&&Qd c.val):=by
 unfold FN;rw[h];simp
def Xb0 {d:En} (hi:0<i) (h:l[i]?=some c) (hd:l[i-1]?=some d):FN l i=(OI c.key&&Qd c.val&&decide (Bs d.key c.key<0)):=by
 unfold FN;rw[h];cases i with
 |zero=>omega
 |succ i=>simp only[hd]
def Xb1 (x:l[i]?=some c) (h:OI c.key=false):FN l i=false:=by
 unfold FN;rw[x];simp[h]
def Xb2 (x:l[i]?=some c) (h:Qd c.val=false):FN l i=false:=by
 unfold FN;rw[x];simp[h]
def R1 (l:ct) (s:l.length<=60000):Df prog 341 [va] (λw=>Ec w va En.enc l) [] (λ_:Unit=>.bool<|Uc l) Tr (λ_=>[]):=by
 intro w y n;refine E0 func341 I n<|Y I<|A I<|Ad<|Y I<|Lm I<|U I (AM I O8 I y.kp)<|uG ?_;refine Bm (λ(i:Nat)=>[(0,va),(5,va),(6,aa (l.length:Int)),(7,aa (i:Int))]) (λ(i:Nat)=>St w [] []) (λ(i:Nat)=>i<=l.length/\∀j,j<i->FN l j=true) (λ(i:Nat)=>l.length-i) (0) gy (Si I) Ih<|λi m=>Ad ?_
 obtain⟨hi,hj⟩:=m;refine Cr I<|U I (Ql I)<|Ns<|CB 8 I (λp=>?_)<|λp=>?_
 .obtain⟨c,a⟩:=gE l i;have z:=(qp.1 a).1;refine Am I<|Ah<|Ks<|Af<|Y I<|Lm I<|U I (Aw i I O8 Qc I y.kp I I)<|U I (Bc i I Yc Qc I I y.kp a)<|Z I<|Ax I I I zeroValue79<|λr=>Ce en0.c I<|Nh I<|Z I<|AF I I Qc I I YQ (En.one _) ZCz<|Ce c.c ZFy<|Ns<|LZ (rg 26) 31381061805 (λk=>(Ac r 79 c.c).at k/\Ec k va En.enc l) I St.drawn YB<|Ht Rj I MW I<|Dq I ZGS<|MX I<|E1 (Gv c.key) I call279 Tt<|λ_ _=>Ai YB<|Md 2 I ?_
  refine CB 16 I (λb=>?_)<|λb=>?_
  .refine Md 21 I (AN<|Kt<|Am I ?_);exact Y I<|A I<|Al<|AA<|Ag<|Ag<|AA<|Ag<|Av I I<|λ_ h=>⟨(),congrArg Eb (TY z<|Xb1 a b).symm,T0,h.oS⟩
  refine Ht Rj I O6 I (Dq I (AH c.val.c I Tz O6 I uO yO Nw)<|MX I<|E1 (MM c.val) I call316 Tt<|λ_ _=>Ai YB<|Md 3 I<|CB 22 I (λe=>?_)<|λe=>?_)
  .refine Md 15 I (AN<|Kt<|Am I<|Y I<|A I<|Al<|AA<|Ag<|Ag ?_);exact AA<|Ag<|Av I I<|λ_ h=>⟨(),congrArg Eb (TY z<|Xb2 a e).symm,T0,h.oS⟩
  refine Dm I (Dq I vd<|Dm I<|CB 25 I (λo=>?_)<|λo=>?_)
  .obtain⟨d,hd⟩:=gE l (i-1);have x:=Xb0 J a hd;rw[b,e] at x;refine Md 2 I<|Dq I yw<|Dq I (Aw (i-1) I O8 Qc I uS I J)<|Ht Rj I MW I<|Dq I (BK d.key.c (i-1) 0 I OO MW I I uS hd A2 aP)<|Ht Rj I MW I<|Dq I ZGS<|MX I<|E1 (G6 d.key c.key) I call162 Tt<|λ_ _=>Ai YB<|Md 3 I<|AN<|Kt<|CB 37 I (λg=>?_)<|λg=>?_
   .exact Am I<|Y I<|A I<|Al<|AA<|Ag<|Ag<|AA<|Ag<|Av I I<|λ_ h=>⟨(),congrArg Eb (TY z<|by rw[x,sS J];rfl).symm,T0,h.oS⟩
   refine WG ?_
   exact AJ (i+1) J ⟨J,λj h=>by
    rcases tN.1 h with h|rfl
    .exact hj j h
    rw[x,sT J];rfl⟩ (Si I) Jx
  have f:i=0:=by omega
  subst f;refine Md 12 I<|AN<|Kt<|WG ?_
  exact AJ (0+1) J ⟨J,λj h=>by
   rcases tN.1 h with h|rfl
   .exact hj j h
   rw[ei a,b,e];rfl⟩ (Si I) Jx
 have q:i=l.length:=by omega
 exact Ab I<|AP<|Aa<|Aa<|Ar<|Kt<|Y I<|A I<|Al<|Av I I<|λ_ h=>⟨(),congrArg Eb (ee<|λj h=>hj j J).symm,T0,h⟩
section
variable {P:d8} {n:Nat} {L:Env} {o:Oper} {Q:aB} {K:aO} {w0:d7} {D:bm}
def L8 {v:β->d0} {p:β->Prop} {F:ci} {HB:β->ci} {r:d5} {name:String} {t:d4} {x:d0} {us:bi} (s:Df P f vs E [] v p HB) (g:o.op=.call ⟨.invoke r name,xs.toArray,ts⟩) (hd:o.dst=some d) (e:d.blt n) (y:ev L r=some (.iface t x)) (c:evs L xs=some us)
 (hm:∀w,(callMethod (.iface t x) name us.toArray).run P w=.ok (.enter f vs.toArray) w) (z:∀w,St w0 D F w->E w) (h:∀b,p b->Pre n ((d,v b)::L) (St w0 D<|HB b++F) K):Nl P n L (St w0 D F) o Q K :=
 Xbp hd e (λa w k _=>My g y c hm a w k) gu h
end
def Iy (z:l[i]?=some c) (h:FN l i):OI c.key=true/\Qd c.val=true/\(0<i->∀d,l[i-1]?=some d->Bs d.key c.key<0):=by
 have y:OI c.key=true:=by
  cases y:OI c.key with
  |true=>rfl
  |false=>rw[Xb1 z y] at h;cases h
 have x:Qd c.val=true:=by
  cases x:Qd c.val with
  |true=>rfl
  |false=>rw[Xb2 z x] at h;cases h
 refine⟨y,x,λhi d hd=>?_⟩;rw[Xb0 hi z hd,y,x] at h;simpa using h
def TZ (h:Uc l) {i:Nat} {c:En} (x:l[i]?=some c):FN l i=true:=by
 unfold Uc at h;rw[rT] at h;exact h i<|qm.2 (qp.1 x).1
def Xcu (h:Uc l):∀e∈l,e.Bd:=λe x=>by
 obtain⟨i,hi⟩:=tj.1 x
 obtain⟨y,z,_⟩:=Iy hi<|TZ h hi
 have:=F7 y
 have:=GP z
 unfold En.Bd;omega
def Iz {R:α->α->Prop} (f:∀a b c,R a b->R b c->R a c) {l:List α} (h:∀i a b,l[i]?=some a->l[i+1]?=some b->R a b):l.Pairwise R:=by
 refine XbY<|λi j a b y d x=>?_
 obtain⟨k,rfl⟩:∃k,j=i+1+k:=⟨j-i-1,J⟩
 clear y
 induction k generalizing b with
 |zero=>exact h i a b d x
 |succ k ih =>
  have e:=(qp.1 x).1;obtain⟨c,z⟩:=gE l<|i+1+k;exact f a c b (ih c z)<|h (i+1+k) c b z x
def R2 (h:Uc l):Dl l:=Iz (R:=λa b:En=>Bs a.key b.key<0) (λa b c y d=>Cm y<|qP d)<|λi a b z x=>(Iy x<|TZ h x).2.2 J a z
def Gn (n:Nd):Bool:=Uc n.es&&decide (n.kids.length+n.piv.length+n.msgs.length=0)&&decide (lby n.es<=248)
def Ka (nv:NV) (x:nv.d.leaf):Df prog 258 [.agg nv.c.toArray] Tr [] (λ_:Unit=>.iface 365<|.agg nv.c.toArray) Tr (λ_=>[]):=by
 intro w a y;refine E0 func258 I y ?_;exact Y I<|Z I<|AT I I I I<|λz=>Ce nv.c I<|A I<|Ad<|Y I<|N Bj I Z4 I<|Lo G4 0 I<|G<|Sb 4 true I (x)<|Am I<|Y I<|U I hG<|U rfl (Ex rfl Ro uQ rfl) (A I<|s<|Ag Yu)
def R3 (nv:NV) (z:nv.d.Sm 60000):Df prog 340 [.agg nv.c.toArray] (λw=>OE w nv) [] (λ_:Unit=>.bool<|Uc nv.d.es&&decide (nv.d.kids.length+nv.d.piv.length+nv.d.msgs.length=0)) Tr (λ_=>[]):=by
 intro w x b;obtain⟨a,j,f,i⟩:=z;refine E0 func340 I b<|Y I<|Z I<|AT I I I I<|λg=>Ce nv.c I<|A I<|Y I<|N Ro I RQ I<|Lo UN 0 I<|Z I<|E1 (R1 nv.d.es a) I call341 x.e.kp<|λ_ _=>r I<|Pre.PY 6 I (λy=>?_)<|λy=>?_
 .exact N Ro I OQ I<|Lo Pq 0 I<|U I (AM I KI I x.k.kp)<|N Ro I Eo I<|Lo H6 0 I<|U I (AM I CZ I x.p.kp)<|U I py<|N Ro I DS I<|Lo Fy 0 I<|U I (AM I BH I x.m.kp)<|U I py<|C 2 I<|A I<|s<|Av I I<|λ_ h=>⟨(),congrArg Eb (by rw[y,tO,te];omega),T0,h.oS⟩
 exact C 13 I<|A I<|s<|Av I I<|λ_ h=>⟨(),congrArg Eb zd,T0,h.oS⟩
def R4 (nv:NV) (y:nv.d.Sm 60000) (z:∀e∈nv.d.es,e.Bd):Df prog 339 [.agg nv.c.toArray] (λw=>OE w nv) [] (λ_:Unit=>aa<|lby nv.d.es) Tr (λ_=>[]):=by
 intro w x a;refine E0 func339 I a ?_;exact Y I<|Z I<|AT I I I I<|λb=>Ce nv.c I<|A I<|Y I<|N Ro I RQ I<|Lo UN 0 I<|Z I<|E1 (Lz nv.d.es z y.e) I call307 x.e.kp Zp
def R5 (nv:NV) (x:nv.d.leaf) (z:nv.d.Sm 60000):Df prog 272 [.agg nv.c.toArray] (λw=>OE w nv) [] (λ_:Unit=>.bool<|Uc nv.d.es&&decide (nv.d.kids.length+nv.d.piv.length+nv.d.msgs.length=0)) Tr (λ_=>[]):=by
 intro w y a;refine E0 func272 I a ?_;exact Y I<|Z I<|AT I I I I<|λb=>Ce nv.c I<|A I<|Y I<|U I hG<|Z I<|E1 (Ka nv x) I call258 Tt<|λ_ _=>Z I<|L8 (R3 nv z) I I I I I uX jm Zp
def Xex (nv:NV) (x:nv.d.leaf) (z:nv.d.Sm 60000) (a:∀e∈nv.d.es,e.Bd):Df prog 199 [.agg nv.c.toArray] (λw=>OE w nv) [] (λ_:Unit=>aa<|lby nv.d.es) Tr (λ_=>[]):=by
 intro w y b;refine E0 func199 I b ?_;exact Y I<|Z I<|AT I I I I<|λf=>Ce nv.c I<|A I<|Y I<|U I hG<|Z I<|E1 (Ka nv x) I call258 Tt<|λ_ _=>Z I<|L8 (R4 nv z a) I I I I I uX jm Zp
def JK (nv:NV) (x:nv.d.leaf) (b:nv.d.Sm 60000):Df prog 216 [.agg nv.c.toArray] (λw=>OE w nv) [] (λ_:Unit=>.bool<|Gn nv.d) Tr (λ_=>[]):=by
 intro w a e;refine E0 func216 I e<|Y I<|Z I<|AT I I I I<|λf=>Ce nv.c I<|A I<|Y I<|A I<|Ad<|Y I<|U I hG<|Z I<|E1 (Ka nv x) I call258 Tt<|λ_ _=>G<|Af<|Y I<|U rfl (Cj rfl Ro uQ rfl) (C 2 I<|G<|Am I<|Cr I<|Nh I<|AE<|Au<|Kt<|Y I<|U I hG<|Z I<|E1 (R5 nv x b) I call272 (λ_ h=>a.keep h)<|λ_ _=>r I ?_)
 refine Pre.PY 14 I (λy=>?_)<|λy=>?_
 .have z:Uc nv.d.es=true:=by rw[qW] at y;exact y.1
  exact U I hG<|Z I<|E1 (Xex nv x b<|Xcu z) I call199 (λ_ h=>a.keep h)<|λ_ _=>r I<|U I WJ<|U I (Qy I)<|A I<|s<|Av I I<|λ_ h=>⟨(),congrArg Eb (by unfold Gn;rw[y,tO]),T0,h.oS⟩
 exact C 5 I<|A I<|s<|Av I I<|λ_ h=>⟨(),congrArg Eb (by unfold Gn;rw[y];rfl),T0,h.oS⟩
def R6 (nv:NV) (x:nv.d.leaf):Df prog 136 [.agg nv.c.toArray] Tr [] (λ_:Unit=>.bool false) Tr (λ_=>[]):=by
 intro w a y;refine E0 func136 I y ?_;exact Y I<|Z I<|AT I I I I<|λz=>Ce nv.c I<|A I<|Y I<|N Bj I Z4 I<|Lo G4 0 I<|C 2 I<|Sb 6 false I zc<|C 5 I XF
def Xey (nv:NV) (x:nv.d.leaf):Df prog 259 [.agg nv.c.toArray] Tr [] (λ_:Unit=>C0) Tr (λ_=>[]):=by
 intro w a y;refine E0 func259 I y ?_;exact Y I<|Z I<|AT I I I I<|λz=>Ce nv.c I<|A I<|Y I<|A I<|Ad<|Y I<|U I hG<|Z I<|E1 (Ka nv x) I call258 Tt<|λ_ _=>G<|Af<|Y I<|U rfl (CJ rfl LV uQ rfl A2 zeroValue366) (C 2 I<|G<|Ab I<|Ah<|Au<|Kt<|Y I<|r I XF)
def M1 (nv:NV) (x:nv.d.leaf):Df prog 200 [.agg nv.c.toArray] Tr [] (λ_:Unit=>aa (-1)) Tr (λ_=>[]):=by
 intro w a y;refine E0 func200 I y<|Y I<|Z I<|AT I I I I<|λz=>Ce nv.c I<|A I<|Y I<|Nh I<|A I<|Ad<|Y I<|U I hG<|Z I<|E1 (Xey nv x) I call259 Tt<|λ_ _=>U I Zx<|uG ?_
 refine Bm (λ(u:Unit)=>[(3,aa (-1)),(9,aa ap),(10,aa ap)]) (λ(u:Unit)=>St w [] []) (λ(u:Unit)=>True) (λ(u:Unit)=>0) (()) trivial (Si I) (λ_ h=>h.oS) (λu _=>Y I<|U I (Ql I)<|Ns<|Sb 11 false I (I)<|bP ?_);exact λ_ h=>⟨(),rfl,T0,h⟩
section
variable {P:d8} {n:Nat} {L:Env} {X:aU} {o:Oper} {Q:aB} {K:aO} {w0:d7} {D:bm}
def Et {t:d4} {i:d5} {y z v:d0} (d:o.op=.index t x i) (c:ev L x=some y) (hi:ev L i=some z) (b:∀w,(Instr.index t y z).run P w=.ok v w):MV P n L X o v :=
 MV.mk (λa=>Instr.index t (a.eval x)<|a.eval i) (λa=>by simp[execOp,d])<|λa w h _=>by rw[h.eval c,h.eval hi];exact b w
def Cf {v:β->d0} {p:β->Prop} {F:ci} {HB:β->ci} {g:d5} (s:Df P f vs E [] v p HB) (a:o.op=.call ⟨.value g,xs.toArray,ts⟩) (hd:o.dst=some d) (z:d.blt n) (c:ev L g=some (.func (.func f) #[] #[])) (e:∀us w,(callFunc f us).run P w=.ok (.enter f us) w) (x:evs L xs=some vs)
 (y:∀w,St w0 D F w->E w) (h:∀b,p b->Pre n ((d,v b)::L) (St w0 D<|HB b++F) K):Nl P n L (St w0 D F) o Q K :=
 Hr (us:=[]) a hd z c e x (λw h=>by rw[sG];exact s.frame (F:=F) h<|y w h) h
end
abbrev Pj (f:Nat):d0:=.func (.func f) #[] #[]
def Xeg (h:Dl l) (x:Dl<|Dw l m):J9 l [m]:=λi hi=>by
 exact ZFX
def Fz (nv:NV) (x:nv.d.leaf):Df prog 270 [.agg nv.c.toArray] Tr [] (λ_:Unit=>.agg #[Pj 297,Pj 267]) Tr (λ_=>[]):=by
 intro w b z;refine E0 func270 I z ?_;exact Y I<|Z I<|AT I I I I<|λa=>Ce nv.c I<|Z I<|Ax I I I zeroValue363<|λe=>G<|Y I<|A I<|Ad<|Y I<|N Bj I Z4 I<|Lo G4 1 I<|G<|Sb 5 true I (x)<|Am I<|Cr I<|A I<|Y I<|U I (AS [Pj 296,Pj 265] I I uX)<|U I (AS [Pj 297,Pj 267] I I uX)<|U I ZHN<|r I<|U I (Et (v:=.agg #[Pj 297,Pj 267]) I I I uX)<|Z I<|AF rfl rfl sizeOf363 rfl rfl rfl (λv y=>ZHr) wJ (Ce [Pj 297,Pj 267] I ZFw)