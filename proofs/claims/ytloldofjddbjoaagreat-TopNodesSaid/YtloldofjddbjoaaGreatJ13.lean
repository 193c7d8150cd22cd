/- Part 13. -/
import Derived.Test.YtloldofjddbjoaaGreatJ12
set_option linter.all false
set_option maxHeartbeats 8000000
set_option maxRecDepth 100000
namespace Go.Proofs.YtloldofjddbjoaaGreat
open Go.Sep Go.RowKit Tryz
variable {va vb:d0} {α β:Type} {l r s a:bf} {p m j B i:Nat} {d:Nd} {x:HQ} {E:aU} {HA F H:ci} {ts:ca} {t u:d4} {f:FuncId} {c z:Int} {xs:bx} {vs:bi} {y:d5} {w0 w:d7} {D:bm}
def Xke (t:Int) (keep:Bool):Df prog 137 [aa t,.bool keep] Tr [] (λx:Nat=>BM x) Tr (λx=>[O5 x t<|SK keep]):=by
 intro w z y;refine E0 func137 I y ?_;exact Y I<|A I<|Y I<|C 2 I<|U I (AS (Rn t<|SK keep) I I uX)<|Z I<|AT I I I I<|λx=>M (Rn t<|SK keep) I<|A I<|Al zM
def Xjt (h:x.Ok B) {t:Int} (q:OJ t) (z d:Nat) (f:Fl) (A:f.n<=60000) (m:f.g<=60000) (e:(x.hm.no 0).Sm 50000) (b:x.hm.has t 0):Df prog 87 [BM z,BM x.bh,.func (.func 83) #[] #[BM d]] Tr (Ac d 106 [BM z]::TF z t f.a f.w f.p av f.n f.g::x.H) (λy:Nat×HQ=>.tuple #[]) (λy=>y.2.bh=x.bh/\y.2.Ok B/\y.2.hm=(Gf x.hm t f).1) (λy=>Ac d 106 [BM z]::((Gf x.hm t f).2.H z t y.1++y.2.H)):=by
 intro w E o;refine Ey func87 I o<|Y I<|Mv 2 I<|N Pz I SS I<|Lo TW 2 I<|Z I<|Ee [_,_] (LL h 0) I call116 Tt<|λs _=>Pre.world (St _ _<|_::_::_::_::_::_::HQ.H x) Ih ?_
 refine Mv 3 I<|Z I<|Ax I I I zeroValue135<|λD=>M NZ.c I<|Z I<|SW AK I Nc<|Ak I<|Y I<|Mv 2 I<|N Dg I Z4 I<|AQ<|Z I<|AB I I Z4 I I I (rO I)<|M (Tv t f.a f.w false av (f.n)<|f.g) I<|Ns<|Y I<|U I (Cq ((⟨s,x.hm.no 0⟩:NV).c) AV AK 1 I (I)<|I)<|Z I<|E1 (LG (⟨s,x.hm.no 0⟩:NV) e) I call136 aI<|λ_ _=>G<|Pre.PY 20 I (λj=>?_)<|λj=>?_
 .have hm:Gf x.hm t f=(x.hm,{f with a:=5,p:=false,r:=some<|SK false}):=by unfold Gf;rw[pN j]
  refine Am I<|Y I<|Mv 4 I<|N Dg I Z3 I<|Lo G3 0 I<|Z I<|AX (Xke t false) I I I call137 I Tt<|λl _=>Lc I<|N Dg I Z3 I<|AD<|Z I<|AB I I Z3 I I I (rO I)<|M (Tv t (5) f.w false av (f.n)<|f.g) I<|Lc I<|N Dg I JC I<|Z I<|AB I I JC I I I (rO I)<|M (Tv t (5) f.w false ((BM l)) (f.n)<|f.g) I<|G<|Al<|Ag<|AQ<|Ae<|BP<|Ae<|BP<|Ae<|BP<|Ae<|BP<|Ae ?_
  exact Pm [2,1] I<|Bl I<|λ_ k=>⟨(l,x),rfl,⟨rfl,h,Yq⟩,dR⟩
 have hm:Gf x.hm t f=(x.hm.leave (x.hm.fi 0) t 0,({f with p:=false}:Fl).over false):=by unfold Gf;rw[pQ<|by rw[show Gc (x.hm.no 0)=false from j];decide]
 refine Ab I<|Ah<|Kt<|Y I<|Mv 3 I<|N Dg I Z3 I<|Lo G3 0 I<|AD<|Ae<|AQ<|Ae<|AQ<|Ae<|AQ<|Ae<|AQ<|Ae<|Pm [3,3,3,3,3] I<|Pm [6,5,5] I<|Z I<|Ee [_,_] (JN h q (x.hm.SV b.1) b.2) I call122 Tt ?_;rintro⟨y,v⟩ ⟨i,u,C⟩;refine kE ?_;refine G<|Cr I<|Lm I<|Z I<|Nz [] (vs:=[.bool false]) (us:=[BM d]) (XcA d z t f.a f.w false av f.n f.g A m false) I I I I call83 I Tt<|λ_ _=>Pre.world (St _ _<|_::_::HQ.H y) Ih ?_
 exact AE<|AW<|Bl I<|λ_ k=>⟨(0,y),rfl,⟨i,u,by rw[hm];exact C⟩,dR⟩
section
variable {P:d8} {n:Nat} {L:Env} {o:Oper} {Q:aB} {K:aO} {w0:d7} {D:bm}
def Gg {v:β->d0} {p:β->Prop} {F:ci} {HB:β->ci} {r:d5} {name:String} {x:d0} {us:bi} {d:Nat} (s:Df P f vs E HA v p HB) (g:o.op=.call ⟨.invoke r name,xs.toArray,ts⟩) (hd:o.dst=some d) (e:d.blt n) (y:ev L r=some (.iface t x)) (c:evs L xs=some us)
 (hm:∀w,(callMethod (.iface t x) name us.toArray).run P w=.ok (.enter f vs.toArray) w) (z:∀w,St w0 D (HA++F) w->E w) (h:∀b,p b->Pre n ((d,v b)::L) (St w0 D<|HB b++F) K):Nl P n L (St w0 D<|HA++F) o Q K :=
 Xbp hd e (λa w k _=>My g y c hm a w k) gu h
end
def Fl.zX (f:Fl) (e:Int):f.pinned e=⟨if e=1\/e=2 then 3 else if e=3 then 2 else f.a,decide (e=4),if e=1\/e=2\/e=3 then true else f.p,f.r,f.n,f.g⟩:=by
 unfold Fl.pinned;by_cases h1:e=1\/e=2
 .rw[pN h1,pN h1,pN J]
 rw[pQ h1,pQ h1];by_cases h3:e=3
 .rw[pN h3,pN h3,pN J]
 rw[pQ h3,pQ h3,pQ J]
structure bI (N:Nat->Nd) (L:Hm) (t:Int) (f:Fl):Prop where
 lo:1<=f.a
 hi:f.a<=5
 n6:f.n<=60000
 g6:f.g<=60000
 r4:f.a<=4->f.r=none
 p1:f.a=1->L.s.us[0]?=some true
 p2:f.a=2->L.s.us[0]?=some true/\Cw ap L.rd=some t/\(∃bk,L.s.bl[0]?=some bk/\IE bk.l (N 0))/\(N 0).Sm 1000
 p3:f.a=3->(L.M.Me 0 2).isSome=true
 p4:f.a=4->(L.no 0).Sm 50000/\L.has t 0
 p5:f.a=5->∃r,f.r=some r/\Vh N L t r
def fo (h:x.Ok B) {t:Int} (K:OJ t) (D:B+1<=60000) (d:x.hm.may t) (b o:Nat) (N:Nat->Nd) (f:Fl) (j:bI N x.hm t f):Df prog 40 [BM b,BM x.bh] Tr (f.H b t o++x.H) (λy:Nat×HQ=>.bool<|decide ((Pg N x.hm t f).2.a=1)&&!(Pg N x.hm t f).2.w) (λy=>y.2.bh=x.bh/\y.2.Ok (B+1)/\y.2.hm=(Pg N x.hm t f).1) (λy=>(Pg N x.hm t f).2.H b t y.1++y.2.H):=by
 obtain z|z|z|z|z:f.a=1\/f.a=2\/f.a=3\/f.a=4\/f.a=5:=by have C:=j.lo;have S:=j.hi;omega
 .have i:=j.r4 A1;rw[show f.H b t o=[TF b t f.a f.w f.p av f.n f.g] by unfold Fl.H;rw[i]];have hm:Pg N x.hm t f=((x.hm.pin t ap).2,⟨(if (x.hm.pin t ap).1=1\/(x.hm.pin t ap).1=2 then 3 else if (x.hm.pin t ap).1=3 then 2 else f.a),decide ((x.hm.pin t ap).1=4),(if (x.hm.pin t ap).1=1\/(x.hm.pin t ap).1=2\/(x.hm.pin t ap).1=3 then true else f.p),none,f.n,f.g⟩):=by unfold Pg;rw[pN z,Fl.zX,i]
  intro w F u;refine Ey func40 I u<|Y I<|Z I<|AT I I I I<|λl=>Ce [BM b] I<|Ak I<|Ad<|Y I<|Lm I<|Lo DZ 0 I<|Lc I<|EJ Dg I Z3 I<|Lo G3 1 I<|Z I<|Ee [_,_] VJ I call82 Tt<|λ_ _=>Pre.world (St _ _<|_::_::HQ.H x) Ih ?_
  refine LH 14 (.bool true) I Yr<|U I (Qt I)<|Nk<|Sb 15 false I (I)<|Ab I<|Ah<|Kt<|Y I<|U I hM<|Ak I<|Ad<|Y I<|Lo DZ 0 I<|Lc I<|EJ Dg I Z3 I<|Lo G3 1 I<|Nk<|Af<|Y I<|U I (Qe I)<|Ak I<|Sb 21 true I uU<|Am I<|Cr I<|Lo DZ 0 I<|Lm I<|Z I<|Ee [_] (oe h D b t f.a f.w f.p av f.n f.g<|j.p1 z) I call84 Tt ?_;rintro y ⟨c,q,s⟩;refine Pre.world (St _ _<|_::_::HQ.H y) Ih ?_;refine AE<|Au<|Kt<|Y I<|Lo DZ 0 I<|U rfl Yl (Ak I<|Y I<|Lm I<|AD<|Z I<|Gg (IG b t ((if (x.hm.pin t ap).1=1\/(x.hm.pin t ap).1=2 then 3 else if (x.hm.pin t ap).1=3 then 2 else f.a)) (decide ((x.hm.pin t ap).1=4)) ((if (x.hm.pin t ap).1=1\/(x.hm.pin t ap).1=2\/(x.hm.pin t ap).1=3 then true else f.p)) av (f.n)<|f.g) I I I I I uX Tt<|λ_ _=>Pre.world (St _ _<|_::_::HQ.H y) Ih ?_);exact Ak I<|Al<|AD<|Ae<|Av I I<|λ_ A=>⟨(0,y),Zf,⟨c,q,Zk⟩,by rw[hm];exact A⟩
 .have i:=j.r4 A1;rw[show f.H b t o=[TF b t f.a f.w f.p av f.n f.g] by unfold Fl.H;rw[i]];obtain⟨G,L,⟨bk,R,O⟩,Q⟩:=j.p2 z;have hm:Pg N x.hm t f=(x.hm.load ap<|N 0,{f with a:=3}):=by unfold Pg;rw[pQ Rw,pN z]
  intro w F u;refine Ey func40 I u<|Y I<|Z I<|AT I I I I<|λl=>Ce [BM b] I<|Ak I<|Ad<|Y I<|Lm I<|Lo DZ 0 I<|Lc I<|EJ Dg I Z3 I<|Lo G3 1 I<|Z I<|Ee [_,_] VJ I call82 Tt<|λ_ _=>Pre.world (St _ _<|_::_::HQ.H x) Ih ?_
  refine vX ?_;refine U I (Qe I)<|Ak I<|Sb 26 true I uU<|Am I<|Y I<|Lm I<|Lo DZ 0 I<|Lc I<|EJ Dg I Z3 I<|Lo G3 1 I<|Z I<|Ee [_,_] (VF (k:=0) h G L R O Q) I call85 Tt ?_;rintro⟨y,v,P⟩ ⟨c,q,s⟩;refine kE ?_;refine Nk<|Cr I<|Lo DZ 0 I<|Lc I<|EJ Dg I Z3 I<|AD<|Z I<|AB I I Z3 I I I (rO I)<|Ce (Tv t (3) f.w f.p av (f.n)<|f.g) I<|AE<|Au<|Kt<|Y I<|Lo DZ 1 I<|U rfl Yl (Ak I<|Y I<|Lm I<|Z I<|Gg (IG b t (3) f.w f.p av (f.n)<|f.g) I I I I I uX Tt<|λ_ _=>Pre.world (St _ _<|_::_::HQ.H y) Ih ?_);exact Ak I<|Al<|AD<|Ae<|Av I I<|λ_ A=>⟨(0,y),Zf,⟨c,q.mono A1 D,Zk⟩,by rw[hm];show St _ _ (Fl.H {f with a:=3} b t 0++y.H) _;rw[show Fl.H {f with a:=3} b t 0=[TF b t 3 f.w f.p av f.n f.g] by unfold Fl.H;dsimp only;rw[i]];exact A⟩
 .have i:=j.r4 A1;rw[show f.H b t o=[TF b t f.a f.w f.p av f.n f.g] by unfold Fl.H;rw[i]];have G:=j.p3 z;have hm:Pg N x.hm t f=(x.hm.take (x.hm.fi 0) t true,{f with a:=4}):=by unfold Pg;rw[pQ Rw,pQ Rw,pN z]
  intro w F u;refine Ey func40 I u<|Y I<|Z I<|AT I I I I<|λl=>Ce [BM b] I<|Ak I<|Ad<|Y I<|Lm I<|Lo DZ 0 I<|Lc I<|EJ Dg I Z3 I<|Lo G3 1 I<|Z I<|Ee [_,_] VJ I call82 Tt<|λ_ _=>Pre.world (St _ _<|_::_::HQ.H x) Ih ?_
  refine vX ?_;refine U I (Qe I)<|Ak I<|Sb 26 false I uU<|Ab I<|Y I<|U I (Qe I)<|Ak I<|Sb 37 true I uU<|Am I<|Y I<|Lm I<|Lo DZ 0 I<|Lc I<|EJ Dg I Z3 I<|Lo G3 1 I<|Z I<|Ee [_,_] (lK h K (x.hm.SV G) D true) I call86 Tt ?_;rintro⟨y,P⟩ ⟨c,q,s⟩;refine kE ?_;refine Nk<|Cr I<|Lo DZ 0 I<|Lc I<|EJ Dg I Z3 I<|AD<|Z I<|AB I I Z3 I I I (rO I)<|Ce (Tv t (4) f.w f.p av (f.n)<|f.g) I<|AE<|Au<|Kt<|Y I<|Lo DZ 1 I<|U rfl Yl (Ak I<|Y I<|Lm I<|Z I<|Gg (IG b t (4) f.w f.p av (f.n)<|f.g) I I I I I uX Tt<|λ_ _=>Pre.world (St _ _<|_::_::HQ.H y) Ih ?_);exact Ak I<|Al<|AD<|Ae<|Av I I<|λ_ A=>⟨(0,y),Zf,⟨c,q,Zk⟩,by rw[hm];show St _ _ (Fl.H {f with a:=4} b t 0++y.H) _;rw[show Fl.H {f with a:=4} b t 0=[TF b t 4 f.w f.p av f.n f.g] by unfold Fl.H;dsimp only;rw[i]];exact A⟩
 .have i:=j.r4 A1;rw[show f.H b t o=[TF b t f.a f.w f.p av f.n f.g] by unfold Fl.H;rw[i]];obtain⟨G,L⟩:=j.p4 z;have hm:Pg N x.hm t f=Gf x.hm t f:=by unfold Pg;rw[pQ Rw,pQ Rw,pQ Rw,pN z]
  rcases hv:Gc (x.hm.no 0) with _|_
  .have m:Gf x.hm t f=(x.hm.leave (x.hm.fi 0) t 0,({f with p:=false}:Fl).over false):=by unfold Gf;rw[pQ<|by rw[hv];decide]
   intro w F u;refine Ey func40 I u<|Y I<|Z I<|AT I I I I<|λl=>Ce [BM b] I<|Ak I<|Ad<|Y I<|Lm I<|Lo DZ 0 I<|Lc I<|EJ Dg I Z3 I<|Lo G3 1 I<|Z I<|Ee [_,_] VJ I call82 Tt<|λ_ _=>Pre.world (St _ _<|_::_::HQ.H x) Ih ?_
   refine vX ?_;refine wa ?_;rintro⟨E,y⟩ ⟨c,q,s⟩;dsimp only at c q s;refine Pre.world (St _ _<|_::TF b t (1) f.w false av (f.n+1) (f.g)::HQ.H y) (λ_ h=>by rw[m] at h;exact h) ?_;refine AE<|Au<|Kt<|Y I<|Lo DZ 0 I<|U rfl Yl (Ak I<|Y I<|Lm I<|AD<|Z I<|Gg (IG b t (1) f.w false av (f.n+1)<|f.g) I I I I I uX Tt<|λ_ _=>Pre.world (St _ _<|_::_::HQ.H y) Ih ?_);exact Ak I<|Al<|AD<|Ae zg
  have m:Gf x.hm t f=(x.hm,{f with a:=5,p:=false,r:=some<|SK false}):=by unfold Gf;rw[pN hv]
  intro w F u;refine Ey func40 I u<|Y I<|Z I<|AT I I I I<|λl=>Ce [BM b] I<|Ak I<|Ad<|Y I<|Lm I<|Lo DZ 0 I<|Lc I<|EJ Dg I Z3 I<|Lo G3 1 I<|Z I<|Ee [_,_] VJ I call82 Tt<|λ_ _=>Pre.world (St _ _<|_::_::HQ.H x) Ih ?_
  refine vX ?_;refine wa ?_;rintro⟨E,y⟩ ⟨c,q,s⟩;dsimp only at c q s;refine Pre.world (St _ _<|_::O5 E t (SK false)::TF b t (5) f.w false ((BM E)) f.n (f.g)::HQ.H y) (λ_ h=>by rw[m] at h;exact h) ?_;refine AE<|Au<|Kt<|Y I<|Lo DZ 0 I<|U rfl Yl (Ak I<|Y I<|Lm I<|AQ<|Z I<|Gg (IG b t (5) f.w false ((BM E)) (f.n)<|f.g) I I I I I uX Tt<|λ_ _=>Pre.world (St _ _<|_::_::_::HQ.H y) Ih ?_);exact Ak I<|Al<|AD<|Ae<|Pm [1] I zg
 obtain⟨r,M,J⟩:=j.p5 z;rw[show f.H b t o=[O5 o t r,TF b t f.a f.w f.p (BM o) f.n f.g] by unfold Fl.H;rw[M]];by_cases C:(Nb N x.hm t r).2.a=11
 .have hm:Pg N x.hm t f=((Nb N x.hm t r).1,f.over<|decide ((Nb N x.hm t r).2.e=0)):=by unfold Pg;rw[pQ Rw,pQ Rw,pQ Rw,pQ Rw];simp only[M];rw[pN C]
  intro w F u;refine Ey func40 I u<|Y I<|Z I<|AT I I I I<|λl=>Ce [BM b] I<|Ak I<|Ad<|Y I<|Lm I<|Lo DZ 0 I<|Lc I<|EJ Dg I Z3 I<|Lo G3 2 I<|Z I<|Ee [_,_,_] VJ I call82 Tt<|λ_ _=>Pre.world (St _ _<|_::_::_::HQ.H x) Ih ?_
  refine XdL ?_;refine XdH ?_;rintro y ⟨c,q,s⟩;refine Pre.world (St _ _<|_::_::O5 o t (Nb N x.hm t r).2::HQ.H y) Ih ?_;refine Mv 4 I<|Ak I<|Y I<|Lm I<|Nk<|Sb 65 true I (by first|exact sT C|exact sS C)<|Am I<|Cr I<|Mv 3 I<|Z I<|Nz [] (vs:=[.bool<|decide ((Nb N x.hm t r).2.e=0)]) (us:=[BM l]) (XcA l b t f.a f.w f.p (BM o) f.n f.g j.n6 j.g6<|decide ((Nb N x.hm t r).2.e=0)) I I I I call83 I Tt<|λ_ _=>Pre.world (St _ _<|_::_::_::HQ.H y) Ih ?_
  refine AE<|Au<|Kt<|Y I<|Lo DZ 0 I<|U rfl Yl (Ak I<|Y I<|Lm I<|AD<|Z I<|Gg (IG b t (1) f.w f.p av (f.n+1) (if decide ((Nb N x.hm t r).2.e=0)=true then f.g+1 else f.g)) I I I I I uX Tt<|λ_ _=>Pre.world (St _ _<|_::_::_::HQ.H y) Ih ?_);exact Ak I<|Al<|AD<|Ae<|AD<|Ae<|Av I I<|λ_ A=>⟨(0,y),by dsimp only;rw[hm]<;>rfl,⟨c,q,Zk⟩,by rw[hm];exact A⟩
 have hm:Pg N x.hm t f=((Nb N x.hm t r).1,{f with r:=some (Nb N x.hm t r).2}):=by unfold Pg;rw[pQ Rw,pQ Rw,pQ Rw,pQ Rw];simp only[M];rw[pQ C]
 intro w F u;refine Ey func40 I u<|Y I<|Z I<|AT I I I I<|λl=>Ce [BM b] I<|Ak I<|Ad<|Y I<|Lm I<|Lo DZ 0 I<|Lc I<|EJ Dg I Z3 I<|Lo G3 2 I<|Z I<|Ee [_,_,_] VJ I call82 Tt<|λ_ _=>Pre.world (St _ _<|_::_::_::HQ.H x) Ih ?_
 refine XdL ?_;refine XdH ?_;rintro y ⟨c,q,s⟩;refine Pre.world (St _ _<|_::_::O5 o t (Nb N x.hm t r).2::HQ.H y) Ih ?_;refine Mv 4 I<|Ak I<|Y I<|Lm I<|Nk<|Sb 65 false I (by first|exact sT C|exact sS C)<|Ab I<|Ah<|Au<|Kt<|Y I<|Lo DZ 0 I<|U rfl Yl (Ak I<|Y I<|Lm I<|AD<|Z I<|Gg (IG b t f.a f.w f.p ((BM o)) (f.n)<|f.g) I I I I I uX Tt<|λ_ _=>Pre.world (St _ _<|_::_::_::HQ.H y) Ih ?_);exact Ak I<|Al<|AD<|Ae<|Pm [1] I<|Av I I<|λ_ A=>⟨(o,y),Zf,⟨c,q,Zk⟩,by rw[hm];exact A⟩
def KP {m:Nat} (k:Kv m):Prop:=∃j:Nat,j<=m/\k.n=(j:Int)/\k.b=k.b.take j++List.replicate (m-j) 0
def txt {m:Nat} (k:Kv m):bf:=k.n::k.b.take k.n.toNat
def Qk (e:En):bf:=txt e.key++txt e.val
def RN (m:Ms):bf:=m.kind::(le m.seq 8++(txt m.key++(if m.kind=1 then txt m.val else if m.kind=3 then le m.by' 8 else [])))
def RH (d:Nd):bf:=d.es.flatMap Qk++(d.kids.flatMap (λz=>le z 4)++(d.piv.flatMap txt++d.msgs.flatMap RN))
structure NK (d:Nd):Prop where
 e:∀e∈d.es,KP e.key/\KP e.val
 k:∀z∈d.kids,0<=z/\z<256
 p:∀p∈d.piv,KP p
 m:∀m∈d.msgs,KP m.key/\(m.kind=1\/m.kind=2\/m.kind=3)/\(m.kind=1->KP m.val)
def KP.part {k:Kv m} {cs:bi} {off j:Nat} (hj:k.n=(j:Int)) (h:(cs.drop off).take (m+1)=k.c) (y:j<=m):(cs.drop<|off+1).take (j*dt.sz)=dt.flat (k.b.take j):=by
 have x:(cs.drop<|off+1).take m=k.b.map (.int .u8):=by
  have:=congrArg (λl=>l.drop 1) h;simp only[List.drop_take,pX,Nat.add_sub_cancel] at this;rw[this];rfl
 rw[Hx,List.map_take,<-x,List.take_take];show _=_
 rw[show min j m=j*dt.sz from by show min j m=j*1;omega]
def Gi {k:Kv m} {j:Nat} (h:k.n=(j:Int)):txt k=(j:Int)::k.b.take j:=by unfold txt;rw[h];rfl
def EK {f:α->bf} {l:List α} {a:α} (h:l[i]?=some a):(l.take<|i+1).flatMap f=(l.take i).flatMap f++f a:=by
 rw[sH,h,List.flatMap_append];simp
def GG (f:α->bf) (l:List α) (i:Nat):((l.take i).flatMap f).length<=(l.flatMap f).length:=by
 conv=>rhs;rw[<-qV i l,List.flatMap_append,pK]
 omega
def En.fZ (e:En):e.c[9]?=some (aa e.val.n):=by
 unfold En.c;rw[pO xR,Kv.oQ];rfl
def Gj (zs l:bf) {x off cap:Nat} {T:d4} {cs:bi} (y:(cs.drop off).take (l.length*dt.sz)=dt.flat l) (f:l.length<=cap) (e:l.length<=16) (g:zs.length<=60000):Df prog 273 [vb,.slice (some ⟨x,off,none⟩) l.length cap] Tr (AG vb 5 dt (zs)::[Ac x T cs]) (λv:d0=>v) Tr (λv=>AG v 5 dt (zs++((l.length:Int)::l))::[Ac x T cs]):=by
 intro w d z;refine Ey func273 I z ?_;exact Y I<|A I<|Y I<|C 2 I<|U I (Fw I O7 I)<|U I (Br (p:=(l.length:Int)) I U3 U5 I<|BX)<|Z I<|As (sz:=1) [.tmp 8] I I I I I O7 Z5 I zeroValue5 I<|λb=>AD<|Z I<|Ap O7 O7 Gt I (λ_ h=>AR kj dt [(l.length:Int)] I I) A8<|λc=>AD<|Ae<|Lm I<|Z I<|Ap O7 O7 Gt I (λ_ h=>JW kj dt l I J y) A8<|λa=>A I<|Al<|Av I I<|λ_ h=>⟨a,rfl,T0,by rw[qQ] at h;exact h⟩
def Xgj (zs:bf) (nv:NV) (hk:NK nv.d) (hn:zs.length+(RH nv.d).length<=60000) (P:nv.d.Sm 1000):Df prog 217 [vb,.agg nv.c.toArray] Tr (AG vb 5 dt (zs)::Bo nv) (λv:d0=>v) Tr (λv=>AG v 5 dt (zs++RH nv.d)::Bo nv):=by
 intro w hE Z;obtain⟨N,M,V,R⟩:=hk;obtain⟨h3,h6,h4,h7⟩:=P;have W:(RH nv.d).length=(nv.d.es.flatMap Qk).length+((nv.d.kids.flatMap<|λz=>le z 4).length+((nv.d.piv.flatMap txt).length+(nv.d.msgs.flatMap RN).length)):=by unfold RH;simp only[pK]
 refine Ey func217 I Z<|Cs I<|LW I<|AT I I I I<|λE=>Ce nv.c I<|Ak I<|Ad<|Ad<|Pm [1] I<|Cr I<|EJ Bj I RQ I<|Lo UN 1 I<|Lq I (AM I O8 I<|SN 2 I)<|uG ?_
 refine B6 (λ(i:Nat) (v:d0)=>[(0,v),(3,pV E),(14,nv.s.e.v),(15,aa (nv.d.es.length:Int)),(16,aa (i:Int))]) (λ(i:Nat) (v:d0)=>St w (dom<|AG vb 5 dt (zs)::Bo nv)<|AG v 5 dt ((zs++(nv.d.es.take i).flatMap Qk))::Ac E 135 nv.c::Bo nv) (λ(i:Nat) (v:d0)=>i<=nv.d.es.length) (λ(i:Nat) (v:d0)=>nv.d.es.length-i) (0) vb (qc _) (Si I) (λ_ h=>sv)<|λi v hi=>Ad ?_
 have F:=GG Qk nv.d.es i;refine Cr I<|Lq I (Ql I)<|Ns<|CB 17 I (λH=>?_)<|λH=>?_
 .obtain⟨x,o⟩:=gE nv.d.es i;have g:=EK (f:=Qk) o;have a:=GG Qk nv.d.es<|i+1;rw[g,pK] at a;have u:=ry o;obtain⟨⟨j1,A,j,_⟩,⟨j2,G,n,_⟩⟩:=N x u;have B:=Gi j;have t2:=Gi n;have y:(x.key.b.take j1).length=j1:=by rw[pI,x.key.len];omega
  have l:(x.val.b.take j2).length=j2:=by rw[pI,x.val.len];omega
  have T:Qk x=((j1:Int)::x.key.b.take j1)++((j2:Int)::x.val.b.take j2):=by unfold Qk;rw[B,t2]
  rw[T] at g a;simp only[pK,pz,y,l] at a;refine Am I<|Ah<|Ks<|Af<|Cs I<|Lq I (Aw i I O8 Qc I (SN 2 I) I I)<|Lq I (Bc i I Yc Qc I I (SN 2 I) o)<|LW I<|Ax I I I zeroValue79<|λD=>LW I<|AF I I Qc I I YQ (En.one _) (by show 0+x.c.length<=_;rw[En.oQ];decide)<|Ce x.c (Sep.oR<|by show x.c.length=_;rw[En.oQ];rfl)<|Nk<|LZ [0,1,2,3,4,5,6,8,9,10,11,12,13,7,14,15] 39858075 (λQ=>(Ac D 79 x.c).at Q) I St.drawn uP<|Dm I<|Ht Rj I MW I<|Ht Pn I UW I<|Ht Rj I MW I<|Ht Pn I Z3 I<|Dq I xB<|Dq I wX<|Ht Rj I O6 I<|Ht VX I sizeOf54 I<|Ht Rj I O6 I<|Ht VX I Z3 I<|Dq I (Aj I G3 I Ih<|En.fZ _)<|Dq I (C9 j2 I bJ Z5 I I n A1)<|LH 26 (.slice (some ⟨D,0+0+1,none⟩) (x.key.b.take j1).length 8) I XE<|LH 33 (.slice (some ⟨D,0+9+1,none⟩) (x.val.b.take j2).length 16) I (by rw[l])<|AD<|MX I<|DE (Gj (zs++(nv.d.es.take i).flatMap Qk) (x.key.b.take j1) (by rw[y];exact KP.part j x.pd A) A1 A1 vG) I I I call273 I Tt ?_
  intro J _;refine Ai uq<|KC I<|DE (Gj ((zs++(nv.d.es.take i).flatMap Qk)++((x.key.b.take j1).length:Int)::x.key.b.take j1) (x.val.b.take j2) ZHc A1 A1<|by simp only[pK,pz];omega) I I I call273 I Tt<|λX _=>KC I<|OC I I uW<|AN<|wA ?_
  exact AJ ((i+1,X)) A4 A4 (Si I)<|λ_ h=>by
   dsimp only;rw[g];simpa [y,l] using h
 have t:i=nv.d.es.length:=by omega
 subst t;rw[pZ<|qb _];refine Ab I<|AP<|Aa<|Aa<|Ar<|Ks<|Cs I<|EJ Bj I OQ I<|Lo Pq 1 I<|Lq I (AM I KI I yp)<|uG ?_;refine B6 (λ(i:Nat) (v:d0)=>[(0,v),(3,pV E),(37,nv.s.k.v),(38,aa (nv.d.kids.length:Int)),(39,aa (i:Int))]) (λ(i:Nat) (v:d0)=>St w (dom<|AG vb 5 dt (zs)::Bo nv)<|AG v 5 dt (((zs++nv.d.es.flatMap Qk)++(nv.d.kids.take i).flatMap (λz=>le z 4)))::Ac E 135 nv.c::Bo nv) (λ(i:Nat) (v:d0)=>i<=nv.d.kids.length) (λ(i:Nat) (v:d0)=>nv.d.kids.length-i) (0) v (qc _) (Si I) (λ_ h=>sv)<|λi v hi=>Ad ?_
 have F:=GG (λz=>le z 4) nv.d.kids i;refine Cr I<|Lq I (Ql I)<|Ns<|CB 40 I (λH=>?_)<|λH=>?_
 .obtain⟨x,o⟩:=gE nv.d.kids i;have g:=EK (f:=(λz=>le z 4)) o;have a:=GG (λz=>le z 4) nv.d.kids<|i+1;rw[g,pK] at a;have u:=ry o;have hz:=M x u;have L:=BE 4 x;rw[L] at a;refine Am I<|Ah<|Ks<|Af<|Cs I<|Lq I (Aw i I KI Z3 I yp I I)<|Lq I (AO i 0 I G3 I I yp o I)<|Ak I<|Cr I<|Mv 2 I<|Lq I (Br (p:=x) I U3 Y6 I<|D4)<|LW I<|AX (I0 ((zs++nv.d.es.flatMap Qk)++(nv.d.kids.take i).flatMap (λz=>le z 4)) x 4 A2 A2 vG) I I I call274 I ur<|λJ _=>Nh I<|AE<|wA ?_
  exact AJ ((i+1,J)) A4 A4 (Si I)<|λ_ h=>by
   dsimp only;rw[g];simpa using h
 have t:i=nv.d.kids.length:=by omega
 subst t;rw[pZ<|qb _];refine Ab I<|AP<|Aa<|Aa<|Ar<|Ks<|Cs I<|EJ Bj I Eo I<|Lo H6 1 I<|Lq I (AM I CZ I<|SN 4 I)<|uG ?_;refine B6 (λ(i:Nat) (v:d0)=>[(0,v),(3,pV E),(49,nv.s.p.v),(50,aa (nv.d.piv.length:Int)),(51,aa (i:Int))]) (λ(i:Nat) (v:d0)=>St w (dom<|AG vb 5 dt (zs)::Bo nv)<|AG v 5 dt (((zs++nv.d.es.flatMap Qk++nv.d.kids.flatMap (λz=>le z 4))++(nv.d.piv.take i).flatMap txt))::Ac E 135 nv.c::Bo nv) (λ(i:Nat) (v:d0)=>i<=nv.d.piv.length) (λ(i:Nat) (v:d0)=>nv.d.piv.length-i) (0) v (qc _) (Si I) (λ_ h=>sv)<|λi v hi=>Ad ?_
 have F:=GG txt nv.d.piv i;refine Cr I<|Lq I (Ql I)<|Ns<|CB 52 I (λH=>?_)<|λH=>?_
 .obtain⟨x,o⟩:=gE nv.d.piv i;have g:=EK (f:=txt) o;have a:=GG txt nv.d.piv<|i+1;rw[g,pK] at a;have u:=ry o;obtain⟨j1,A,j,_⟩:=V x u;have B:=Gi j;have y:(x.b.take j1).length=j1:=by rw[pI,x.len];omega
  rw[B] at g a;simp only[pz,y] at a;refine Am I<|Ah<|Ks<|Af<|Cs I<|Lq I (Aw i I CZ MW I (SN 4 I) I I)<|Lq I (Bc i I OO MW I I (SN 4 I) o)<|LW I<|Ax I I I zeroValue77<|λD=>LW I<|AF I I MW I I Nw (Kv.one _) (by show 0+x.c.length<=_;rw[Kv.oQ];decide)<|Ce x.c (Sep.oR<|by show x.c.length=_;rw[Kv.oQ];rfl)<|Nk<|Cr I<|Lm I<|EJ Pn I UW I<|EJ Pn I Z3 I<|Lo G3 0 I<|Lq I wX<|LH 59 (.slice (some ⟨D,0+1,none⟩) (x.b.take j1).length 8) I XE<|AD<|LW I<|DE (Gj ((zs++nv.d.es.flatMap Qk++nv.d.kids.flatMap (λz=>le z 4))++(nv.d.piv.take i).flatMap txt) (x.b.take j1) (by rw[y];exact KP.part j (Bq x) A) A1 A1 vG) I I I call273 I Tt<|λJ _=>Nh I<|AE<|wA ?_
  exact AJ ((i+1,J)) A4 A4 (Si I)<|λ_ h=>by
   dsimp only;rw[g];simpa [y] using h
 have t:i=nv.d.piv.length:=by omega
 subst t;rw[pZ<|qb _];refine Ab I<|AP<|Aa<|Aa<|Ar<|Ks<|Cs I<|EJ Bj I DS I<|Lo Fy 1 I<|Lq I (AM I BH I<|SN 5 I)<|uG ?_;refine B6 (λ(i:Nat) (v:d0)=>[(0,v),(3,pV E),(63,nv.s.m.v),(64,aa (nv.d.msgs.length:Int)),(65,aa (i:Int))]) (λ(i:Nat) (v:d0)=>St w (dom<|AG vb 5 dt (zs)::Bo nv)<|AG v 5 dt (((zs++nv.d.es.flatMap Qk++nv.d.kids.flatMap (λz=>le z 4)++nv.d.piv.flatMap txt)++(nv.d.msgs.take i).flatMap RN))::Ac E 135 nv.c::Bo nv) (λ(i:Nat) (v:d0)=>i<=nv.d.msgs.length) (λ(i:Nat) (v:d0)=>nv.d.msgs.length-i) (0) v (qc _) (Si I) (λ_ h=>sv)<|λi v hi=>Ad ?_
 have F:=GG RN nv.d.msgs i;refine Cr I<|Lq I (Ql I)<|Ns<|CB 66 I (λH=>?_)<|λH=>?_
 .obtain⟨x,o⟩:=gE nv.d.msgs i;have g:=EK (f:=RN) o;have a:=GG RN nv.d.msgs<|i+1;rw[g,pK] at a;have u:=ry o;obtain⟨⟨j1,A,j,_⟩,h2,O⟩:=R x u;have B:=Gi j;have y:(x.key.b.take j1).length=j1:=by rw[pI,x.key.len];omega
  have r:=BE 8 x.seq;have S:=BE 8 x.by'
  have hq:=TP x.ws;refine Am I<|Ah<|Ks<|Af<|Cs I<|Lq I (Aw i I BH Bi I (SN 5 I) I I)<|Lq I (Bc i I Ck Bi I I (SN 5 I) o)<|LW I<|Ax I I I zeroValue154<|λD=>LW I<|AF I I Bi I I (Ms.oQ _) (Ms.one _) (by show 0+x.c.length<=_;rw[Ms.oQ];decide)<|Ce x.c (Sep.oR<|by show x.c.length=_;rw[Ms.oQ];rfl)<|Ns<|LZ [0,1,2,3,6,7,9,10,11,12,13,14,4,5,8,15,16] 121699989 (λQ=>(Ac D 154 x.c).at Q) I St.drawn uP<|Dm I<|Ht BR I Z3 I<|Dq I xB<|Dq I (Br (p:=x.kind) I U3 U5 I<|BX)<|Ht BR I Qb I<|Dq I (Aj I Xa I Ih I)<|Ht BR I MW I<|Ht Pn I UW I<|Ht BR I MW I<|Ht Pn I Z3 I<|Dq I xB<|Dq I wX<|LH 83 (.slice (some ⟨D,0+2+1,none⟩) (x.key.b.take j1).length 8) I XE ?_
  have h5:1+(8+(j1+1))<=(RN x).length:=by unfold RN;rw[B];simp only[pK,pz,y,r];omega
  refine MX I<|As (sz:=1) [.tmp 72] I I I I I O7 Z5 I zeroValue5 I<|λb3=>Ai uq<|AQ<|MX I<|Ap O7 O7 Gt I (λ_ h=>AR (h.at 1 I) dt [x.kind] I I) (by simp only[pK,pz,sR];omega)<|λJ=>Ai (Ob 2 I)<|MX I<|AX (I0 (((zs++nv.d.es.flatMap Qk++nv.d.kids.flatMap (λz=>le z 4)++nv.d.piv.flatMap txt)++(nv.d.msgs.take i).flatMap RN)++[x.kind]) x.seq 8 A2 A2<|by simp only[pK,pz,sR,r];omega) I I I call274 I ur<|λX _=>Ai (Ob 3 I)<|AQ<|Ae<|AD<|Ae<|KC I<|DE (Gj ((((zs++nv.d.es.flatMap Qk++nv.d.kids.flatMap (λz=>le z 4)++nv.d.piv.flatMap txt)++(nv.d.msgs.take i).flatMap RN)++[x.kind])++le x.seq 8) (x.key.b.take j1) (by rw[y];exact KP.part j x.pd A) A1 A1<|by simp only[pK,pz,sR,r];omega) I I I call273 I Tt<|λY _=>KC I<|OC I I uW<|AN<|Kt<|Cs I<|EJ BR I Z3 I<|Lo G3 1 I<|Nk<|Af<|Cs I<|Lq I (Qe I)<|Ak I ?_
  refine CB 87 I (λq=>?_)<|λq=>?_
  .obtain⟨j2,G,n,_⟩:=O q;have t2:=Gi n;have l:(x.val.b.take j2).length=j2:=by rw[pI,x.val.len];omega
   have K:(RN x).length=1+(8+((j1+1)+(j2+1))):=by unfold RN;rw[B,pN q,t2];simp only[pK,pz,y,l,r];omega
   refine Am I<|Cr I<|Lm I<|EJ BR I O6 I<|EJ VX I sizeOf54 I<|EJ BR I O6 I<|EJ VX I Z3 I<|Lq I (Aj I G3 I uq<|Ms.fZ _)<|Lq I (C9 j2 I bJ Z5 I I n A1)<|LH 95 (.slice (some ⟨D,0+11+1,none⟩) (x.val.b.take j2).length 16) I (by rw[l])<|LW I<|DE (Gj (((((zs++nv.d.es.flatMap Qk++nv.d.kids.flatMap (λz=>le z 4)++nv.d.piv.flatMap txt)++(nv.d.msgs.take i).flatMap RN)++[x.kind])++le x.seq 8)++(((x.key.b.take j1).length:Int)::x.key.b.take j1)) (x.val.b.take j2) ZHc A1 A1<|by simp only[pK,pz,sR,r,y];omega) I I I call273 I Tt<|λU _=>Nh I<|AE<|Au<|wA ?_
   exact AJ ((i+1,U)) A4 A4 (Si I)<|λ_ h=>by
    dsimp only;rw[g,show RN x=x.kind::(le x.seq 8++(txt x.key++(if x.kind=1 then txt x.val else if x.kind=3 then le x.by' 8 else []))) from rfl,B];simpa [y,l,q,t2] using h
  refine Ab I (Cs I<|Lq I (Qe I)<|Ak I<|CB 97 I (λC=>?_)<|λC=>?_)
  .have K:(RN x).length=1+(8+((j1+1)+8)):=by unfold RN;rw[B,pQ q,pN C];simp only[pK,pz,y,r,S];omega
   refine Am I<|Cr I<|Lm I<|EJ BR I Qb I<|Lq I (Aj I Xa I uq<|Ms.aW _)<|LW I<|AX (I0 (((((zs++nv.d.es.flatMap Qk++nv.d.kids.flatMap (λz=>le z 4)++nv.d.piv.flatMap txt)++(nv.d.msgs.take i).flatMap RN)++[x.kind])++le x.seq 8)++(((x.key.b.take j1).length:Int)::x.key.b.take j1)) x.by' 8 A2 A2<|by simp only[pK,pz,sR,r,y];omega) I I I call274 I ur<|λU _=>Nh I<|AE<|Au<|Au<|Kt<|Cr I<|Lq I (Qi I)<|Lm I<|AE<|Xo ?_
   exact AJ ((i+1,U)) A4 A4 (Si I)<|λ_ h=>by
    dsimp only;rw[g,show RN x=x.kind::(le x.seq 8++(txt x.key++(if x.kind=1 then txt x.val else if x.kind=3 then le x.by' 8 else []))) from rfl,B];simpa [y,q,C] using h
  refine Ab I (Ah<|Au<|wA ?_)
  exact AJ ((i+1,Y)) A4 A4 (Si I)<|λ_ h=>by
   dsimp only;rw[g,show RN x=x.kind::(le x.seq 8++(txt x.key++(if x.kind=1 then txt x.val else if x.kind=3 then le x.by' 8 else []))) from rfl,B];simpa [y,q,C] using h
 have t:i=nv.d.msgs.length:=by omega
 subst t;rw[pZ<|qb _];exact Ab I<|AP<|Aa<|Aa<|Ar<|Kt<|Cs I<|Lm I<|Ak I<|Al<|AD<|Ae<|Av I I<|λ_ h=>⟨v,rfl,T0,by unfold RH;simpa [qQ] using h⟩
def GI (d:Nd):bf:=[if d.leaf=true then 1 else 2,if d.leaf=true then (d.es.length:Int) else (d.kids.length:Int),(d.msgs.length:Int),0]
def JO (d:Nd) (s:bf):bf:=GI d++(s++(RH d++List.replicate (248-(RH d).length) 0))
def Jm (d:Nd):bf:=JO d<|List.replicate 4 0
def Ff (d:Nd):bf:=JO d<|le (Gb<|Jm d) 4
def II (x:s.length=4) (h:(RH d).length<=248):(JO d s).length=256:=by
 unfold JO GI;simp only[pK,pz,sR,s9];omega
def LP (pre post:bi) (d:Nd) {s t:bf} (y:s.length=4) (z:t.length=4):Sep.splice (pre++dt.flat (JO d s)++post) (pre.length+4) (dt.flat t)=pre++dt.flat (JO d t)++post:=by
 have h:∀s,dt.flat (JO d s)=dt.flat (GI d)++(dt.flat s++dt.flat (RH d++List.replicate (248-(RH d).length) 0)):=λs=>by
  unfold JO;rw[Enc.pe,Enc.pe]
 have x:(pre++dt.flat (GI d)).length=pre.length+4:=by rw[pK,Enc.oU];rfl
 have:=Sep.XP (dt.flat t) (dt.flat s) (pre++dt.flat (GI d)) (dt.flat (RH d++List.replicate (248-(RH d).length) 0)++post)<|by rw[Enc.oU,Enc.oU,y,z]
 rw[x] at this;rw[h,h];exact oO
def aG (h:s.length=4):((JO d s).take 8).drop 4=s:=by
 have x:((GI d++s)++(RH d++List.replicate (248-(RH d).length) 0)).take 8=GI d++s:=List.take_left'<|by rw[pK,h];rfl
 unfold JO;rw[<-qQ,x];exact List.drop_left' I
def Xgk (h:s.length=4):(JO d s).drop 8=RH d++List.replicate (248-(RH d).length) 0:=by
 unfold JO;rw[<-qQ];exact List.drop_left'<|by rw[pK,h];rfl
def Ki (nv:NV) (r:BJ nv.d) (D:NK nv.d) (q:(RH nv.d).length<=248) (i:nv.d.Sm 255):Df prog 145 [.agg nv.c.toArray] Tr (Bo nv) (λv:d0=>.tuple #[v,aa 0]) Tr (λv=>AG v 5 dt (Ff nv.d)::Bo nv):=by
 intro w L B;obtain⟨C,H,F,f⟩:=id i;refine Ey func145 I B ?_;refine Cs I<|LW I<|AT I I I I<|λo=>Ce nv.c I<|Nh I<|Ak I<|Ad<|Cs I<|Lq I hG<|LW I<|E1 (HH nv<|i.mono A2) I call216 yJ<|λ_ _=>Lq I (Qt I)<|Nk<|Sb 9 false I (by rw[r];rfl)<|Ab I<|Ah<|Ks<|LZ (rg 5) 0 (λg=>(Ac o 135 nv.c).at g/\Ec g nv.s.k.v ds nv.d.kids) I St.drawn (Hb 0 2 I)<|Ht Bj I OQ I<|Dq I mF<|Dq I (AM I KI I uS)<|Md 2 I<|AN<|Ks<|Cs I<|EJ Bj I Z4 I<|Lo G4 0 I<|Nk ?_
 refine ES (λ(u:Unit)=>[(1,pV o),(4,ab (if nv.d.leaf=true then (1:Int) else 2)),(5,aa (if nv.d.leaf=true then (nv.d.es.length:Int) else (nv.d.kids.length:Int)))]) (λ(u:Unit)=>St w (dom<|Bo nv)<|Ac o 135 nv.c::Bo nv) (λ(u:Unit)=>True) ?_ ?_
 .refine Pre.PY 14 I (λb=>?_) (λb=>?_)
  .refine Am I (LZ (rg 5) 0 (λg=>(Ac o 135 nv.c).at g/\Ec g nv.s.e.v En.enc nv.d.es) I St.drawn Xj<|Ht Bj I RQ I<|Dq I (Aj I UN I uO I)<|Dq I (AM I O8 I uS)<|Md 2 I<|AN ?_);exact Bf (()) trivial (Sub.cons I<|Sub.RJ I (by rw[pN b])<|Sub.RJ I (by rw[pN b]) Sub.nil) Jx
  refine Ab I (Ah ?_);exact Bf (()) trivial (Sub.cons I<|Sub.RJ I (by rw[pQ Ym])<|Sub.RJ I (by rw[pQ Ym]) Sub.nil) Jx
 intro u _;refine Ad<|LZ [0,1,2,3,4,5,6,9,7,8,10,11] 85293 (λg=>(Ac o 135 nv.c).at g/\Ec g nv.s.m.v Ms.enc nv.d.msgs) I St.drawn Vz<|Md 2 I<|Dq I (Br (p:=if nv.d.leaf=true then (nv.d.es.length:Int) else (nv.d.kids.length:Int)) I U3 U5 I<|BX<|by split<;>omega)<|Ht Bj I DS I<|Dq I jy<|Dq I (AM I BH I uS)<|Dq I (Br (p:=(nv.d.msgs.length:Int)) I U3 U5 I<|BX)<|Dq I X8<|MX I<|As (sz:=1) [.tmp 18,.tmp 20,.tmp 24,.const<|ab 0] I I I I I O7 Z5 I zeroValue5 I<|λN=>Ai Wp<|Sj dt (GI nv.d) I I ?_
 have n:(GI nv.d).length=4:=rfl;refine MX I<|I4 (E:=AI .u8) (m:=4) (a0:=(0:Int)) I I I O7 U3 Gt I I I I I (by simp only[Rp,n];simp) (by simp only[n];omega)<|λJ=>Ba (l':=GI nv.d++List.replicate 4 (0:Int)) (I)<|Ai Wp ?_
 have l:(GI nv.d++List.replicate 4 (0:Int)).length=8:=rfl;refine Pm [0,1,1,1,1] I<|MX I<|Xf7 (Xgj (GI nv.d++List.replicate 4 (0:Int)) nv D (by rw[l];omega)<|i.mono A2) I I I call217 I Tt<|λM _=>Ai (Hb 5 4 I)<|Sz I<|AN<|Ks ?_
 have j:(GI nv.d++List.replicate 4 (0:Int)++RH nv.d).length=8+(RH nv.d).length:=by rw[pK,l]
 refine Cr I<|Mv 2 I<|Lq I (AM I O7 I ur)<|Lq I yw<|LH 32 (aa ((248-(RH nv.d).length:Nat):Int)) I (by rw[j];exact congrArg (Value.int .i64) A1) ?_;have y:(Jm nv.d).length=256:=II (by rw[s9]) q;refine LW I<|I4 (E:=AI .u8) (m:=248-(RH nv.d).length) (a0:=(0:Int)) I I I O7 U3 Gt I I I I I (by simp only[Rp,j];omega) (by simp only[j];omega)<|λK=>Ba (l':=Jm nv.d) (by unfold Jm JO;simp only[qQ])<|Ak I<|Ad<|Dk Zi<|λA cap pre x G a z=>?_
 subst G;rw[y] at a z;rw[y];have t:(pre++dt.flat (Jm nv.d)++x).length=pre.length+256+x.length:=by rw[pK,pK,Enc.oU,y];rfl
 refine LZ (rg 5) 189 (λg=>(Ac A 5<|pre++dt.flat (Jm nv.d)++x).at g) I St.drawn uP<|Dm I<|Dq I (DQ 4 I O7 Z5 I I I A1)<|Dm I<|LH 35 (.slice (some ⟨A,pre.length+4,none⟩) 252<|cap-4) I (by rw[pQ<|show ¬cap=4 by omega])<|MX I<|AX (Gy (Jm nv.d) Zi) I I I call218 I (λ_ h=>by have:=Eh wG dt (Jm nv.d) pre.length cap pre x I I (by rw[y];exact a);rwa[y] at this)<|λvs _=>Ai uq ?_
 have f:(le (Gb<|Jm nv.d) 4).length=4:=BE _ _;refine WA ?_;rintro⟨sa,sc,rfl⟩;exact AD<|KC I<|Hw (E:=AI .u8) (sa:=sa) (sl:=(le (Gb<|Jm nv.d) 4).length) (sc:=sc) (sc':=sc) (m:=le (Gb<|Jm nv.d) 4) 4 I I I O7 Z5 I I (by rw[f];rfl) (λ_ h=>by have:=h.rd 1 rfl;rw[f] at this;exact this) (by rw[t];show pre.length+4+4*1<=_;omega)<|Bb (LP pre x nv.d (by rw[s9]) f)<|AN<|Ks<|F6 (E:=AI .u8) (len:=256) (cap:=cap) (Ff nv.d) pre x I (II f q) A1 a z<|Cr I<|Mv 2 I<|Ak I<|Al<|AD<|Ae<|B7<|Ae<|Bw (rs:=[.tmp 2,.tmp 3]) I I jU
section
variable {P:d8} {n:Nat} {L:Env} {X:aU} {o:Oper}
def ku (k:d6) (a b:Int):Int:=k.wrap ((BitVec.ofInt k.bits a ||| BitVec.ofInt k.bits b).toNat:Int)
def Xlz {x:d5} {k:d6} {p q:Int} (z:o.op=.binOp .or t x y u) (h:ev L x=some (.int k p)) (a:ev L y=some (.int k q)):MV P n L X o (.int k<|ku k p q) :=
 DJ z h a<|λw _=>by rw[qC,CX];simp[binOp,Op.intBits,ku]
def Xk3 {x:d5} {k j:d6} {p:Int} (m:Nat) (a:o.op=.binOp .shl t x y u) (h:ev L x=some (.int k p)) (c:ev L y=some (.int j (m:Int))) (hm:m<=k.bits):MV P n L X o (.int k<|k.wrap<|p*2^m) :=
 DJ a h c (λw _=>by
  rw[qC,CX]
  have z:¬((m:Int)<0):=J
  have b:min ((m:Int)).toNat k.bits=m:=by rw[rD];omega
  simp only[binOp,Op.shift,pQ z,b]
  rfl)
end
def Xh2 {a:Int} (z:0<=a) (d:a<72057594037927936) (h:EU c):ku .u64 (IntKind.u64.wrap<|a*2^8) c=c+256*a:=by
 unfold EU at h;rw[D4 J];obtain⟨a,rfl⟩:=pB z;obtain⟨c,rfl⟩:=pB h.1
 have x:(BitVec.ofInt 64 ((a:Int)*2^8) ||| BitVec.ofInt 64 (c:Int)).toNat=a*256+c:=by
  rw[BitVec.toNat_or,BitVec.toNat_ofInt,BitVec.toNat_ofInt];have b:(((a:Int)*2^8)%((2^64:Nat):Int)).toNat=a <<< 8:=by rw[Nat.shiftLeft_eq];omega
  have y:((c:Int)%((2^64:Nat):Int)).toNat=c:=J;rw[b,y,<-Nat.shiftLeft_add_eq_or_of_lt J,Nat.shiftLeft_eq]
 unfold ku;show IntKind.u64.wrap (((BitVec.ofInt 64 ((a:Int)*2^8) ||| BitVec.ofInt 64 (c:Int)).toNat:Int))=_
 rw[x,D4 J];omega
def Xgl (l:bf) (p k:Nat) (i:1<=k) (r:k<=8) (o:p+k<=l.length) (q:l.length<=60000) (z:∀x∈l,EU x):Df prog 300 [va,aa (p:Int),aa (k:Int)] (λw=>Ec w va dt l) [] (λ_:Unit=>.tuple #[am<|num<|(l.drop p).take k,.bool true]) Tr (λ_=>[]):=by
 intro w f m;refine E0 func300 I m ?_;refine Y I<|Nh I<|A I<|Ad<|Y I<|Lm I<|Z I<|E1 (XaE k) I call298 Tt<|λ_ _=>U I (Qt I)<|Lm I<|Sb 13 false I mG<|C 4 I<|Sb 17 false I mG<|C 2 I<|U I (AM I O7 I f.kp)<|Lm I<|U I yw<|U I vd<|U I (Qz I)<|G<|Sb 24 false I mG<|Ab I<|Ah<|Kt<|Y I<|A I<|Ad<|Y I ?_
 refine Lm I<|U I yw<|A I<|Af ?_;refine Bm (λ(j:Nat)=>[(0,va),(1,aa (p:Int)),(2,aa (k:Int)),(8,am<|num<|(l.drop<|p+(k-j)).take j),(9,aa<|(k:Int)-1-(j:Int))]) (λ(j:Nat)=>St w [] []) (λ(j:Nat)=>j<=k) (λ(j:Nat)=>k-j) (0) (qc _) (Sn I<|Sn I<|Sn I<|Sub.RJ I (by simp[num])<|Sub.RJ I A3 Sub.nil) Ih<|λj hj=>Ad<|Y I<|C 2 I<|G ?_
 refine CB 28 I (λi=>?_)<|λi=>?_
 .obtain⟨c,g⟩:=gE l (p+(k-(j+1)));have a:=z c<|ry g;have y:=Q2 l (p+(k-(j+1))) j J;rw[show p+(k-(j+1))+1=p+(k-j) by omega,g] at y;have d:num ((l.drop<|p+(k-(j+1))).take<|j+1)=c+256*num ((l.drop<|p+(k-j)).take j):=y;have b:=Q3 l (p+(k-j)) j (λx n=>by have:=z x n;unfold EU at this;omega) J;refine Am I<|Ah<|Ks<|Af<|Cr I<|Lm I<|U I (Xk3 8 I I I A2)<|C 3 I<|U I py<|U I (Aw (p+(k-(j+1))) I O7 Z5 I f.kp I uF)<|U I (AO (p+(k-(j+1))) 0 I G5 I I f.kp g I)<|U I (Br (p:=c) I U5 Y6 I<|D4<|by unfold EU at a;omega)<|U I (Xlz I I I)<|Nh I<|AE<|Au<|Kt<|Cr I<|Lm I<|U I yw<|Nh I<|AE ?_;exact AJ (j+1) J J (Sub.cons I<|Sub.cons I<|Sub.cons I<|Sub.RJ I (by rw[Xh2 b.1 b.2 a,d])<|Sub.RJ I (congrArg (Value.int .i64) J) Sub.nil) Jx
 have e:j=k:=by omega
 subst e;rw[Nat.sub_self,sf];exact Ab I<|AP<|Aa<|Aa<|Ar<|Kt<|Y I<|C 2 I<|A I<|Al<|Bw (rs:=[.tmp 6,.tmp 7]) I I xm
abbrev Oe (b:Nat) (va:d0) (p:Nat):Nr:=Ac b 330 [va,aa (p:Int),.bool false]
def Hh (l:bf) (y p k:Nat) (z:blk va≠y) (a:l.length<=60000) (d:∀x∈l,EU x) (f:1<=k) (g:k<=8) (b:p+k<=l.length):Df prog 282 [pV y,aa (k:Int)] (λw=>Ec w va dt l) [Oe y va<|p] (λ_:Unit=>am<|num<|(l.drop p).take k) Tr (λ_=>[Oe y va<|p+k]):=by
 intro w e i;have c:blk va∉dom ([Oe y va<|p]):=zA;refine Ey func282 I i ?_;refine Y I<|A I<|Ad<|LZ (rg 15) 9585621 _ I St.drawn Ih<|Md 2 I<|Ht JB I sizeOf23 I<|Dq I (Aj I isAgg23 I uP I)<|Md 2 I<|Ht JB I Z3 I<|Dq I X9<|Dm I<|MX I<|E1 (Xgl l p k f g b a d) I call300 (λ_ h=>e.keep h c)<|λ_ _=>Ai Ih<|Md 4 I<|KC I<|R I I uW<|AN<|Kt<|Y I<|C 2 I<|N JB I Z3 I<|Lo G3 0 I<|Lm I<|U I (AZ I I I)<|Lc I<|N JB I Z3 I<|Z I<|AB I I Z3 I I I (rO I)<|M [va,aa ((p+k:Nat):Int),.bool false] I<|G<|Y I<|Lm I ?_
 exact C 2 I<|N JB I Z4 I<|Lo G4 0 I<|C 5 I<|N JB I Z4 I<|Z I<|AB I I Z4 I I I (rO I)<|M [va,aa ((p+k:Nat):Int),.bool false] I<|G<|Y I<|Lm I xj
def DI (h:l.drop p=a++r):l.drop (p+a.length)=r:=by
 rw[<-pX,h,List.drop_left]
def Kj (h:l.drop p=a++r) (x:0<a.length):p+a.length<=l.length:=by
 have:=congrArg List.length h;rw[pJ,pK] at this;omega
def NA {k:Nat} (h:l.drop p=le z k++r) (x:0<=z) (y:z<256^k):num ((l.drop p).take k)=z:=by
 rw[h,List.take_left'<|BE k z,Xjw k z x,Int.emod_eq_of_lt x y]
def Xao (h:l.drop p=z::r):num ((l.drop p).take 1)=z:=by
 rw[h];show z+256*0=z;omega
def Xh3 (h:l.drop p=a++r):(l.take<|p+a.length).drop p=a:=by
 rw[List.drop_take,h,tT,sE]
def KP.cells {k:Kv m} {j:Nat} (x:k.n=(j:Int)) (hj:j<=m) (y:k.b=k.b.take j++List.replicate (m-j) 0):(Sep.splice (Na m).c 1<|dt.flat<|k.b.take j).set 0 (aa (j:Int))=k.c:=by
 have h:(k.b.take j).length=j:=xw;rw[Hx,Sep.Vf _ _ _ (by rw[qY,h,Kv.oQ];omega),qY,h,rp 1 j];show aa (j:Int)::((k.b.take j).map (.int .u8)++((List.replicate m (0:Int)).map<|Value.int .u8).drop j)=aa k.n::k.b.map (.int .u8)
 rw[x]
 conv=>rhs;rw[y]
 rw[qR,qZ,qZ,List.drop_replicate]
def NB {v:d0} {E:Enc α} {l:List α} (h:Ec w0 v E l) (s:St w0 D H w) {i:Nat} {b:Nat} {φ:Option Obj->Prop} (hi:H[i]?=some ⟨some b,φ⟩) (y:blk v∉D) (z:0<l.length):blk v≠b:=λe=>by
 have hm:b∈dom H:=List.mem_filterMap.2 ⟨_,ry hi,rfl⟩
 have a:=h.lt<|List.ne_nil_of_length_pos z
 rcases s.dom b hm with x|x
 .exact y<|e▸x
 .omega
def LQ (l:bf) (z p bk off m cap:Nat) (d:blk va≠z) (n:l.length<=60000) (j:∀x∈l,EU x) {T:d4} {cs:bi} {xs r:bf} (g:blk va≠bk) (i:l.drop p=(xs.length:Int)::xs++r) (hm:xs.length<=m) (q:off+xs.length<=cs.length):Df prog 283 [pV z,.slice (some ⟨bk,off,none⟩) m cap] (λw=>Ec w va dt l) (Oe z va (p)::[Ac bk T cs]) (λ_:Unit=>aa (xs.length:Int)) Tr (λ_=>Oe z va (p+1+xs.length)::[Ac bk T<|Sep.splice cs off<|dt.flat xs]):=by
 intro w f o;have y:blk va∉dom (Oe z va (p)::[Ac bk T cs]):=by simp[dom,Ac];exact⟨d,g⟩
 refine Ey func283 I o<|Ad ?_;have k:=Kj (a:=(xs.length:Int)::xs) i A3;simp only[pz] at k;refine Cr I<|A I<|Y I<|Lm I<|Z I<|Bp (Hh l z p 1 ye n j A2 A2 J) I I I call282 I (λ_ h=>f.keep h y) ?_;intro _ _;rw[Xao i];refine U I (Br (p:=(xs.length:Int)) I Y6 U3 I<|Co J)<|A I<|Ad<|Ad<|LZ (rg 18) 344373768 (λe=>(Oe z va<|p+1).at e/\Ec e va dt l) I St.drawn (λ_ h=>⟨h.at 0 rfl,f.keep h y⟩)<|Md 2 I<|Dq I (Fw I O7 I)<|Dq I vd<|Dm I<|Sf 13 I J<|Md 3 I<|Ht JB I sizeOf23 I<|Dq I (Aj I isAgg23 I (λ_ h=>h.1) I)<|Dq I (AM I O7 I<|λ_ h=>h.2)<|Md 2 I<|Ht JB I Z3 I<|Dq I (Aj I G3 I (λ_ h=>h.1) I)<|Dq I (Ci I I I)<|KC I<|R I I vd ?_;refine KC I<|R I I (Qz I)<|AN<|Kt<|Sf 26 I J<|Ab I<|Ah<|Ks<|LZ (rg 17) 86093442 (λe=>(Oe z va<|p+1).at e/\Ec e va dt l) I St.drawn (λ_ h=>⟨h.at 0 rfl,f.keep h y⟩)<|Md 3 I<|Ht JB I sizeOf23 I<|Dq I (Aj I isAgg23 I (λ_ h=>h.1) I)<|Md 2 I<|Ht JB I Z3 I<|Dq I (Aj I G3 I (λ_ h=>h.1) I)<|Md 2 I<|Ht JB I Z3 I<|Dq I (Aj I G3 I (λ_ h=>h.1) I)<|Dm I<|Dq I (AZ I I I) ?_;refine Dq I (Ik (p+1) (p+1+xs.length) I O7 Z5 I (λ_ h=>h.2) I I I uF J J) ?_;have b:=Xh3 (a:=xs)<|DI (a:=[(xs.length:Int)]) i;simp only[pz,sR,qK] at b;have c:min xs.length m=xs.length:=J;refine AD<|KC I<|PQ (E:=dt) (l:=xs) I I I O7 Z5 I I (λ_ h=>by have:=Cg (f.keep h y) (lo:=p+1) (hi:=p+1+xs.length) J J;rwa[b] at this) (by rw[c];show off+xs.length*1<=_;omega) ?_;rw[c,pZ<|qb _];exact AN<|Kt<|Y I<|C 2 I<|N JB I Z3 I<|Lo G3 1 I<|Lm I<|U I (AZ I I I)<|Lc I<|N JB I Z3 I<|AD<|Z I<|AB I I Z3 I I I (rO I)<|M [va,aa ((p+1+xs.length:Nat):Int),.bool false] I<|G<|Y I<|Lm I xj
def K3 (l:bf) (y p:Nat) (z:blk va≠y) (o:l.length<=60000) (n:∀x∈l,EU x) {k:c3} {r:bf} (v:KP k) (g:l.drop p=txt k++r):Df prog 235 [pV y] (λw=>Ec w va dt l) [Oe y va<|p] (λ_:Unit=>.agg k.c.toArray) Tr (λ_=>[Oe y va<|p+(txt k).length]):=by
 intro w s u;have a:blk va∉dom ([Oe y va<|p]):=zA;refine Ey func235 I u<|Ad ?_;obtain⟨j,hj,e,t⟩:=v;have d:(k.b.take j).length=j:=xw;rw[Gi e] at g;have A:(txt k).length=1+j:=by rw[Gi e,pz,d,rp]
 rw[A];exact Cr I<|Z I<|Ax I I I zeroValue77<|λB=>M (Na 8).c I<|G<|Y I<|Z I<|Ax I I I zeroValue77<|λbk=>M (Na 8).c I<|G<|Y I<|Lm I<|N Pn I UW I<|U I (E7 I ZT Z5 I)<|Pre.fact ZC2<|λf=>Pm [2] I<|Z I<|DE (LQ (m:=8) (cap:=8) (xs:=k.b.take j) l y p bk 1 z o n f (by rw[d];exact g) J<|by rw[Kv.oQ];omega) I I I call283 I (λ_ h=>s.keep h a)<|λ_ _=>N Pn I Z3 I<|LH 7 (aa (j:Int)) I Yr<|AD<|Z I<|AB I I Z3 I I I ZBm<|M k.c (KP.cells e hj t)<|G<|Y I<|U I zw<|AQ<|Z I<|AF I I MW I I Nw PU vZ<|M k.c YL<|G<|Al<|AD<|Ae<|CE I bU ZDa
def Xap (l:bf) (y p:Nat) (z:blk va≠y) (o:l.length<=60000) (n:∀x∈l,EU x) {k:Kv 16} {r:bf} (v:KP k) (g:l.drop p=txt k++r):Df prog 281 [pV y] (λw=>Ec w va dt l) [Oe y va<|p] (λ_:Unit=>.agg k.c.toArray) Tr (λ_=>[Oe y va<|p+(txt k).length]):=by
 intro w s u;have a:blk va∉dom ([Oe y va<|p]):=zA;refine Ey func281 I u<|Ad ?_;obtain⟨j,hj,e,t⟩:=v;have d:(k.b.take j).length=j:=xw;rw[Gi e] at g;have A:(txt k).length=1+j:=by rw[Gi e,pz,d,rp]
 rw[A];exact Cr I<|Z I<|Ax I I I zeroValue56<|λB=>M (Na 16).c I<|G<|Y I<|Z I<|Ax I I I zeroValue56<|λbk=>M (Na 16).c I<|G<|Y I<|Lm I<|N VX I sizeOf54 I<|U I (E7 I bJ Z5 I)<|Pre.fact ZC2<|λf=>Pm [2] I<|Z I<|DE (LQ (m:=16) (cap:=16) (xs:=k.b.take j) l y p bk 1 z o n f (by rw[d];exact g) J<|by rw[Kv.oQ];omega) I I I call283 I (λ_ h=>s.keep h a)<|λ_ _=>N VX I Z3 I<|LH 7 (aa (j:Int)) I Yr<|AD<|Z I<|AB I I Z3 I I I ZBm<|M k.c (KP.cells e hj t)<|G<|Y I<|U I (Cq k.c Tz O6 0 I (Bq _) Nw)<|AQ<|Z I<|AF I I O6 I I Nw PU vZ<|M k.c YL<|G<|Al<|AD<|Ae<|CE I xH ZDa
section
variable {P:d8} {n:Nat} {L:Env} {o:Oper} {Q:aB} {K:aO} {w0:d7} {D:bm}
def Mf {v:β->d0} {p:β->Prop} {HB:β->ci} {g:d5} {d:Nat} {bs:bi} (pre:ci) (s:Df P f bs E HA v p HB) (r:o.op=.call ⟨.value g,#[],ts⟩) (hd:o.dst=some d) (m:d.blt n) (t:ev L g=some (.func (.func f) bs.toArray #[]))
 (l:∀us w,(callFunc f us).run P w=.ok (.enter f us) w) (j:∀w,St w0 D (pre++HA) w->E w) (h:∀b,p b->Pre n ((d,v b)::L) (St w0 D<|pre++HB b) K):Nl P n L (St w0 D<|pre++HA) o Q K:=λa w k x=>by
 have y:(execOp a.eval o).run P w=.ok (.enter f bs.toArray) w:=by
  have c:(callFunc f<|bs.toArray++#[]++#[]).run P w=.ok (.enter f bs.toArray) w:=by simpa using l bs.toArray w
  simp only[execOp,r,resolve,k.eval t,Deferred.ofValue,qC,qD,qE,invoke,Array.map_empty,c]
 show o.upon P a K Q ((execOp a.eval o).run P w)
 rw[y];show Calls P f bs.toArray w _
 refine (s.frame (F:=pre) (x.perm sV)<|j w x).mono ?_;rintro e q ⟨b,rfl,z,i⟩;show K (a.put o.dst<|v b) q
 rw[hd];exact h b z _ _ (k.put _ m)<|i.perm sV
end
def Xgm (k:Kv 16):∃a b c d e f g h i j l m n o p q:Int,k.b=[a,b,c,d,e,f,g,h,i,j,l,m,n,o,p,q]:=by
 obtain⟨n,b,len,_,_⟩:=k
 match b,len with
 |[a,b,c,d,e,f,g,h,i,j,l,m,n,o,p,q],_=>exact⟨a,b,c,d,e,f,g,h,i,j,l,m,n,o,p,q,rfl⟩
def Xgn (key:c3) (v:Kv 16) (w:d7):(Instr.build 79 #[(0,.agg key.c.toArray),(1,.agg v.c.toArray)]).run prog w=.ok (.agg (⟨key,v⟩:En).c.toArray) w:=by
 obtain⟨a,b,c,d,e,f,g,h,y⟩:=G1 key;obtain⟨k,j,m,s,z,A,p,u,o,i,q,t,l,r,B,n,x⟩:=Xgm v;unfold En.c Kv.c;rw[y,x]
 kernel_rfl
def Xgo (ki sq:Int) (wk:(Lit.int .i64 ki).wf) (ws:(Lit.int .u64 sq).wf) (key:c3) (w:d7):(Instr.build 154 #[(0,aa ki),(1,am sq),(2,.agg key.c.toArray)]).run prog w=.ok (.agg (mk3 ki sq key wk ws).c.toArray) w:=by
 obtain⟨a,b,c,d,e,f,g,h,x⟩:=G1 key;unfold mk3 Ms.c;show _=Result.ok (Value.agg ([aa ki,am sq]++(key.c++((Na 16).c++[am 0]))).toArray) w
 unfold Kv.c;rw[x]
 kernel_rfl
structure MK (m:Ms):Prop where
 key:KP m.key
 kd:m.kind=1\/m.kind=2\/m.kind=3
 val:m.kind=1->KP m.val
 ZN:¬m.kind=1->m.val=Na 16
 by0:¬m.kind=3->m.by'=0
def aJ {k:Nat} (h:l.drop p=le z k++r) (x:0<k):p+k<=l.length:=by
 have:=Kj h<|by rw[BE];exact x
 rwa[BE] at this
def Xgp (l:bf) (y p:Nat) (a:blk va≠y) (b:l.length<=60000) (d:∀x∈l,EU x) {z:Int} {r:bf} (e:0<=z/\z<256) (f:l.drop p=le z 4++r):Df prog 233 [pV y] (λw=>Ec w va dt l) [Oe y va<|p] (λ_:Unit=>aa z) Tr (λ_=>[Oe y va<|p+(le z 4).length]):=by
 intro w g j;have c:blk va∉dom ([Oe y va<|p]):=by simpa [dom,Ac] using a
 refine Ey func233 I j<|Ad ?_;have i:=aJ f A2;refine Cr I<|A I<|Y I<|Lm I<|Z I<|Bp (Hh l y p 4 a b d A2 A2 i) I I I call282 I (λ_ h=>g.keep h c) ?_;intro _ _;rw[NA f e.1<|Int.lt_trans e.2 A2];exact U I (Br (p:=z) I Y6 U3 I<|Co J)<|A I<|Al<|Av I I<|λ_ h=>⟨(),rfl,T0,by rw[BE];exact h⟩
def Xe2 (l:bf) (z p:Nat) (y:blk va≠z) (a:l.length<=60000) (d:∀x∈l,EU x) {x:En} {r:bf} (i:KP x.key/\KP x.val) (e:l.drop p=Qk x++r):Df prog 231 [pV z] (λw=>Ec w va dt l) [Oe z va<|p] (λ_:Unit=>.agg x.c.toArray) Tr (λ_=>[Oe z va<|p+(Qk x).length]):=by
 intro w g j;have b:blk va∉dom ([Oe z va<|p]):=by simpa [dom,Ac] using y
 refine Ey func231 I j<|Ad ?_;unfold Qk at e ⊢;rw[qQ] at e;have f:=DI e;rw[pK,<-qS];exact Cr I<|Z I<|Ax I I I zeroValue79<|λk=>M (⟨Na 8,Na 16⟩:En).c I<|G<|Y I<|Lm I<|AD<|Z I<|Bp (K3 l z p y a d i.1 e) I I I call235 I (λ_ h=>g.keep h b)<|λ_ _=>Lm I<|Z I<|Bp (Xap l z (p+(txt x.key).length) y a d i.2 f) I I I call281 I (λ_ h=>g.keep h b)<|λ_ _=>U I (AS x.c I I<|Xgn _ _)<|AD<|Z I<|AF I I Qc I I YQ (En.one _) (by simp only[En.oQ];decide)<|M x.c (Sep.oR<|by simp only[En.oQ])<|G<|Al<|CE I (AL I Yc Qc uP YQ) oC
def Xgq (l:bf) (f p:Nat) (z:blk va≠f) (d:l.length<=60000) (b:∀x∈l,EU x) {x:Ms} {r:bf} (N:MK x) (A:l.drop p=RN x++r):Df prog 237 [pV f] (λw=>Ec w va dt l) [Oe f va<|p] (λ_:Unit=>.agg x.c.toArray) Tr (λ_=>[Oe f va<|p+(RN x).length]):=by
 intro w u L;have e:blk va∉dom ([Oe f va<|p]):=zA;refine Ey func237 I L<|Ad ?_;obtain⟨B,M,H,v,t⟩:=N;have o:(le x.seq 8).length=8:=BE _ _;have E:(le x.by' 8).length=8:=BE _ _;have J:=TP x.ws;have K:=TP x.wy;obtain⟨tl,g⟩:∃tl,tl=(if x.kind=1 then txt x.val else if x.kind=3 then le x.by' 8 else []):=⟨_,rfl⟩
 have D:RN x=x.kind::(le x.seq 8++(txt x.key++tl)):=Xh;rw[D] at A ⊢;have m:l.drop (p+1)=le x.seq 8++(txt x.key++(tl++r)):=by have:=DI (a:=[x.kind]) (r:=(le x.seq 8++(txt x.key++tl))++r) A;rw[qQ,qQ] at this;exact this
 have k:=DI m;have y:=DI k;rw[o] at k y;have C:=aJ m A2;have F:(x.kind::(le x.seq 8++(txt x.key++tl))).length=1+8+(txt x.key).length+tl.length:=by simp only[pz,pK,o];omega
 rw[F];refine Cr I<|Z I<|Ax I I I zeroValue154<|λO=>Ce ms0.c I<|Nk<|Y I<|Lm I<|AD<|Z I<|Bp (Hh l f p 1 z d b A2 A2 A1) I I I call282 I dL ?_
 intro _ _;rw[Xao A];refine U I (Br (p:=x.kind) I Y6 U3 I<|Co A1)<|Lm I<|Z I<|Bp (Hh l f (p+1) 8 z d b A2 A2 C) I I I call282 I dL ?_;intro _ _;rw[NA m J.1 J.2];refine Lm I<|Z I<|Bp (K3 l f (p+1+8) z d b B k) I I I call235 I dL<|λ_ _=>U I (AS ((mk3 x.kind x.seq x.key x.wk x.ws).c) I I<|Xgo _ _ _ _ _)<|Z I<|Ax I I I zeroValue154<|λP=>Ce ms0.c I<|Z I<|AF I I Bi I I OM RZ wm<|Ce (mk3 x.kind x.seq x.key x.wk x.ws).c wI<|Ns<|Y I<|EJ BR I Z3 I<|Lo G3 0 I<|Nk<|Af<|Y I<|U I (Qe I)<|Ak I<|CB 14 I (λi=>?_)<|λi=>?_
 .change x.kind=1 at i;have s:tl=txt x.val:=by rw[g,pN i]
  rw[s] at y ⊢;refine Am I<|Cr I<|Lm I<|Pm [1] I<|Z I<|Bp (Xap l f (p+1+8+(txt x.key).length) z d b (H i) y) I I I call281 I dL<|λ_ _=>EJ BR I O6 I<|AD<|Z I<|AF I I O6 I I Nw PU oJ<|Ce ((mk3 x.kind x.seq x.key x.wk x.ws).SL x.val).c aK<|AE<|Au<|Ks ?_
  have q:((mk3 x.kind x.seq x.key x.wk x.ws).SL x.val)=x:=Ms.ext' rfl rfl rfl rfl (t A1).symm;rw[q];exact Cr I<|U I nH<|AQ<|Z I<|AF I I Bi I I OM RZ wm<|Ce x.c wI<|Nk<|Al<|Pm [1] I<|Ae<|CE I xC<|λ_ h=>⟨(),rfl,T0,by have j:=h.drop;rw[show p+1+8+(txt x.key).length+(txt x.val).length=p+(1+8+(txt x.key).length+(txt x.val).length) from by omega] at j;exact j⟩
 change ¬x.kind=1 at i;refine Ab I<|Y I<|U I (Qe I)<|Ak I<|CB 19 I (λn=>?_)<|λn=>?_
 .change x.kind=3 at n;have s:tl=le x.by' 8:=by rw[g,pQ i,pN n]
  rw[s] at y ⊢;have G:=aJ y A2;refine Am I<|Cr I<|Lm I<|Pm [1] I<|Z I<|Bp (Hh l f (p+1+8+(txt x.key).length) 8 z d b A2 A2 G) I I I call282 I dL ?_;intro _ _;rw[NA y K.1 K.2];refine EJ BR I Qb I<|AD<|Z I<|AB I I Qb I I I Za<|Ce ((mk3 x.kind x.seq x.key x.wk x.ws).TA x.by' x.wy).c (Ms.fQ _ _ _)<|AE<|Au<|Ks ?_;have q:((mk3 x.kind x.seq x.key x.wk x.ws).TA x.by' x.wy)=x:=Ms.ext' rfl rfl rfl (v i).symm rfl;rw[q];exact Cr I<|U I nH<|AQ<|Z I<|AF I I Bi I I OM RZ wm<|Ce x.c wI<|Nk<|Al<|Pm [1] I<|Ae<|CE I xC<|λ_ h=>⟨(),rfl,T0,by have j:=h.drop;rw[show p+1+8+(txt x.key).length+8=p+(1+8+(txt x.key).length+(le x.by' 8).length) from by rw[E];omega] at j;exact j⟩
 change ¬x.kind=3 at n;have s:tl=[]:=by rw[g,pQ i,pQ n]
 rw[s];refine Ab I<|Ah<|Au<|Ks ?_;have q:(mk3 x.kind x.seq x.key x.wk x.ws)=x:=Ms.ext' rfl rfl rfl (v i).symm (t n).symm;rw[q];exact Cr I<|U I nH<|AQ<|Z I<|AF I I Bi I I OM RZ wm<|Ce x.c wI<|Nk<|Al<|Pm [1] I<|Ae<|CE I xC<|λ_ h=>⟨(),rfl,T0,by have j:=h.drop;rw[show p+1+8+(txt x.key).length=p+(1+8+(txt x.key).length+([]:bf).length) from by simp;omega] at j;exact j⟩
def I7 {f:α->bf} {xs:List α} {x:α} (h:l.drop p=xs.flatMap f++r) (y:xs[i]?=some x):l.drop (p+((xs.take i).flatMap f).length)=f x++((xs.drop<|i+1).flatMap f++r):=by
 have z:xs.flatMap f=(xs.take i).flatMap f++(f x++(xs.drop<|i+1).flatMap f):=by
  conv=>lhs;rw[<-qV i xs,List.flatMap_append,List.drop_eq_getElem?_toList_append,y]
  rfl
 rw[z,qQ] at h;rw[DI h,qQ]
def fq (l:bf) (y p:Nat) (z:blk va≠y) (g:l.length<=60000) (c:∀x∈l,EU x) {xs:List<|En} {r:bf} (d:∀x∈xs,KP x.key/\KP x.val) (C:xs.length<=60000) (o:l.drop p=xs.flatMap Qk++r):Df prog 230 [aa (xs.length:Int),.func (.func 231) #[pV y] #[]] (λw=>Ec w va dt l) [Oe y va<|p] (λv:d0=>v) Tr (λv=>[AG v 79 En.enc xs,Oe y va<|p+(xs.flatMap Qk).length]):=by
 intro w u q;have k:blk va∉dom ([Oe y va<|p]):=zA;refine enter (n:=16) (vs:=[aa (xs.length:Int),.func (.func 231) #[pV y] #[]]) (St w (dom<|[Oe y va<|p]) [Oe y va<|p]) func230 I I I (St.init q) ?_;refine Y I<|Ak I<|Y I<|Ak I<|Ad<|Y I<|Mv 2 I<|G<|Af<|row0 79 En.enc none ?_;refine B6 (λ(i:Nat) (v:d0)=>[(1,.func (.func 231) #[pV y] #[]),(5,v),(6,aa (xs.length:Int)),(7,aa (i:Int))]) (λ(i:Nat) (v:d0)=>St w (dom<|[Oe y va<|p]) [AG v 79 En.enc<|xs.take i,Oe y va<|p+((xs.take i).flatMap Qk).length]) (λ(i:Nat) (v:d0)=>i<=xs.length) (λ(i:Nat) (v:d0)=>xs.length-i) (0) (.slice none 0 0) (qc _) (Si I) Ih<|λi v hi=>Ad ?_
 have t:(xs.take i).length=i:=xN;refine Cr I<|U I (Ql I)<|Ns<|CB 8 I (λs=>?_)<|λs=>?_
 .obtain⟨x,a⟩:=gE xs i;have m:=EK (f:=Qk) a;have b:=I7 o a;have j:=ry a;refine Am I<|Ah<|Ks<|Af<|Cr I<|Mv 2 I<|Z I<|Mf [_] (Xe2 l y (p+((xs.take i).flatMap Qk).length) z g c (d x j) b) I I I I call231 (λ_ h=>u.keep h k)<|λ_ _=>Pre.world (St _ _ [_,_]) Ih<|Z I<|As (sz:=26) [.tmp 11] I I I I I O8 Qc I zeroValue79 ny<|λB=>AD<|Z I<|Ap O8 O8 Ep I (λ_ h=>AR kj En.enc [x] I I) A8<|λA=>Ba (show _=xs.take (i+1) from by rw[sH,a];rfl)<|zI ?_
  exact yf
 exact zu
def Xh4 (l:bf) (y p:Nat) (a:blk va≠y) (j:l.length<=60000) (d:∀x∈l,EU x) {xs:List<|Int} {r:bf} (e:∀x∈xs,0<=x/\x<256) (D:xs.length<=60000) (q:l.drop p=xs.flatMap (λz=>le z 4)++r):Df prog 232 [aa (xs.length:Int),.func (.func 233) #[pV y] #[]] (λw=>Ec w va dt l) [Oe y va<|p] (λv:d0=>v) Tr (λv=>[AG v 3 ds xs,Oe y va<|p+(xs.flatMap<|λz=>le z 4).length]):=by
 intro w A s;have m:blk va∉dom ([Oe y va<|p]):=by simpa [dom,Ac] using a
 refine enter (n:=16) (vs:=[aa (xs.length:Int),.func (.func 233) #[pV y] #[]]) (St w (dom<|[Oe y va<|p]) [Oe y va<|p]) func232 I I I (St.init s) ?_;refine Y I<|Ak I<|Y I<|Ak I<|Ad<|Y I<|C 2 I<|G<|YA ?_;refine B6 (λ(i:Nat) (v:d0)=>[(1,.func (.func 233) #[pV y] #[]),(5,v),(6,aa (xs.length:Int)),(7,aa (i:Int))]) (λ(i:Nat) (v:d0)=>St w (dom<|[Oe y va<|p]) [AG v 3 ds<|xs.take i,Oe y va<|p+((xs.take i).flatMap<|λz=>le z 4).length]) (λ(i:Nat) (v:d0)=>i<=xs.length) (λ(i:Nat) (v:d0)=>xs.length-i) (0) (.slice none 0 0) (qc _) (Si I) Ih<|λi v hi=>Ad ?_
 have u:(xs.take i).length=i:=xN;refine Cr I<|U I (Ql I)<|Ns<|CB 8 I (λt=>?_)<|λt=>?_
 .obtain⟨x,b⟩:=gE xs i;have o:=EK (f:=(λz=>le z 4)) b;have c:=I7 q b;have k:=ry b;refine Am I<|Ah<|Ks<|Af<|Cr I<|C 2 I<|Z I<|Mf [_] (Xgp l y (p+((xs.take i).flatMap<|λz=>le z 4).length) a j d (e x k) c) I I I I call233 (λ_ h=>A.keep h m)<|λ_ _=>Pre.world (St _ _ [_,_]) Ih<|Z I<|As (sz:=1) [.tmp 11] I I I I I KI Z3 I zeroValue3 I<|λC=>AD<|Z I<|Ap KI KI CD I yX A8<|λB=>Ba (show _=xs.take (i+1) from by rw[sH,b];rfl)<|zI ?_
  exact AJ ((i+1,B)) A4 A4 (Si I)<|λ_ h=>by
   dsimp only;rw[o,pK,<-qS];exact h
 have g:i=xs.length:=by omega
 subst g;rw[pZ<|qb _];exact N0
def aL (l:bf) (y p:Nat) (z:blk va≠y) (g:l.length<=60000) (c:∀x∈l,EU x) {xs:List<|c3} {r:bf} (d:∀x∈xs,KP x) (C:xs.length<=60000) (o:l.drop p=xs.flatMap txt++r):Df prog 234 [aa (xs.length:Int),.func (.func 235) #[pV y] #[]] (λw=>Ec w va dt l) [Oe y va<|p] (λv:d0=>v) Tr (λv=>[AG v 77 (Kv.enc 8) xs,Oe y va<|p+(xs.flatMap txt).length]):=by
 intro w u q;have k:blk va∉dom ([Oe y va<|p]):=zA;refine enter (n:=16) (vs:=[aa (xs.length:Int),.func (.func 235) #[pV y] #[]]) (St w (dom<|[Oe y va<|p]) [Oe y va<|p]) func234 I I I (St.init q) ?_;refine Y I<|Ak I<|Y I<|Ak I<|Ad<|Y I<|Mv 2 I<|G<|Af<|row0 77 (Kv.enc 8) none ?_;refine B6 (λ(i:Nat) (v:d0)=>[(1,.func (.func 235) #[pV y] #[]),(5,v),(6,aa (xs.length:Int)),(7,aa (i:Int))]) (λ(i:Nat) (v:d0)=>St w (dom<|[Oe y va<|p]) [AG v 77 (Kv.enc 8)<|xs.take i,Oe y va<|p+((xs.take i).flatMap txt).length]) (λ(i:Nat) (v:d0)=>i<=xs.length) (λ(i:Nat) (v:d0)=>xs.length-i) (0) (.slice none 0 0) (qc _) (Si I) Ih<|λi v hi=>Ad ?_
 have t:(xs.take i).length=i:=xN;refine Cr I<|U I (Ql I)<|Ns<|CB 8 I (λs=>?_)<|λs=>?_
 .obtain⟨x,a⟩:=gE xs i;have m:=EK (f:=txt) a;have b:=I7 o a;have j:=ry a;refine Am I<|Ah<|Ks<|Af<|Cr I<|Mv 2 I<|Z I<|Mf [_] (K3 l y (p+((xs.take i).flatMap txt).length) z g c (d x j) b) I I I I call235 (λ_ h=>u.keep h k)<|λ_ _=>Pre.world (St _ _ [_,_]) Ih<|Z I<|As (sz:=9) [.tmp 11] I I I I I CZ MW I zeroValue77 xP<|λB=>AD<|Z I<|Ap CZ CZ KL I (λ_ h=>AR kj (Kv.enc 8) [x] I I) A8<|λA=>Ba (show _=xs.take (i+1) from by rw[sH,a];rfl)<|zI ?_
  exact yf
 exact zu
def aM (l:bf) (y p:Nat) (z:blk va≠y) (g:l.length<=60000) (c:∀x∈l,EU x) {xs:List<|Ms} {r:bf} (d:∀x∈xs,MK x) (C:xs.length<=60000) (o:l.drop p=xs.flatMap RN++r):Df prog 236 [aa (xs.length:Int),.func (.func 237) #[pV y] #[]] (λw=>Ec w va dt l) [Oe y va<|p] (λv:d0=>v) Tr (λv=>[AG v 154 Ms.enc xs,Oe y va<|p+(xs.flatMap RN).length]):=by
 intro w u q;have k:blk va∉dom ([Oe y va<|p]):=zA;refine enter (n:=16) (vs:=[aa (xs.length:Int),.func (.func 237) #[pV y] #[]]) (St w (dom<|[Oe y va<|p]) [Oe y va<|p]) func236 I I I (St.init q) ?_;refine Y I<|Ak I<|Y I<|Ak I<|Ad<|Y I<|Mv 2 I<|G<|Af<|row0 154 Ms.enc none ?_;refine B6 (λ(i:Nat) (v:d0)=>[(1,.func (.func 237) #[pV y] #[]),(5,v),(6,aa (xs.length:Int)),(7,aa (i:Int))]) (λ(i:Nat) (v:d0)=>St w (dom<|[Oe y va<|p]) [AG v 154 Ms.enc<|xs.take i,Oe y va<|p+((xs.take i).flatMap RN).length]) (λ(i:Nat) (v:d0)=>i<=xs.length) (λ(i:Nat) (v:d0)=>xs.length-i) (0) (.slice none 0 0) (qc _) (Si I) Ih<|λi v hi=>Ad ?_
 have t:(xs.take i).length=i:=xN;refine Cr I<|U I (Ql I)<|Ns<|CB 8 I (λs=>?_)<|λs=>?_
 .obtain⟨x,a⟩:=gE xs i;have m:=EK (f:=RN) a;have b:=I7 o a;have j:=ry a;refine Am I<|Ah<|Ks<|Af<|Cr I<|Mv 2 I<|Z I<|Mf [_] (Xgq l y (p+((xs.take i).flatMap RN).length) z g c (d x j) b) I I I I call237 (λ_ h=>u.keep h k)<|λ_ _=>Pre.world (St _ _ [_,_]) Ih<|Z I<|As (sz:=29) [.tmp 11] I I I I I BH Bi I zeroValue154 uM<|λB=>AD<|Z I<|Ap BH BH DL I (λ_ h=>AR kj Ms.enc [x] I I) A8<|λA=>Ba (show _=xs.take (i+1) from by rw[sH,a];rfl)<|zI ?_
  exact yf
 exact zu
def fv {k:c3} (h:OI k):KP k:=by
 obtain⟨m,y,z,x,b,a⟩:=EI h;exact⟨m,z,y,by rw[<-x];exact a⟩
def Xc9 {k:Kv 16} (h:Qd k):KP k:=by
 unfold Qd Ds at h;obtain⟨y,z,x⟩:=sW h;refine⟨k.n.toNat,J,J,?_⟩;unfold pad at x;rw[pI,k.len,show min k.n.toNat 16=k.n.toNat by omega] at x;exact x.symm
def aN {m:Ms} (h:OD m):MK m:=by
 have y:=h;unfold OD at h;rw[qW] at h;refine⟨fv h.1,IY y,λx=>?_,λx=>?_,λx=>?_⟩
 .rw[pN x,qW] at h;exact Xc9 h.2.1
 .rcases IY y with e|e|e
  .exact absurd e x
  .rw[pQ x,pN e,qW] at h;exact sW h.2.2
  exact XbU y e
 rcases IY y with e|e|e
 .rw[pN e,qW] at h;exact sW h.2.2
 .rw[pQ J,pN e,qW] at h;exact sW h.2.1
 exact absurd e x
def Kk {k:Kv m} (h:KP k):((txt k).length:Int)=1+k.n:=by
 obtain⟨j,y,x,_⟩:=h;rw[Gi x,pz,pI,k.len];omega
def fw {e:En} (h:KP e.key) (x:KP e.val):((Qk e).length:Int)=S9 e:=by
 have a:=Kk h;have b:=Kk x;unfold Qk S9;rw[pK];omega
def fz {m:Ms} (h:OD m):((RN m).length:Int)=Qq m:=by
 have k:=aN h;have a:=Kk k.key;have y:=BE 8 m.seq;have x:=BE 8 m.by'
 unfold RN Qq;rw[pN h,pz,pK,pK,y];split
 .rename_i hk;have b:=Kk<|k.val hk;omega
 split
 .rw[x];omega
 simp only[sR];omega
def IJ {f:α->bf} {g:α->Int}:∀{l:List α},(∀x∈l,((f x).length:Int)=g x)->((l.flatMap f).length:Int)=(l.map g).sum
 |[],_=>rfl
 |x::l,h=>by
  have a:=h x<|rW ..
  have b:=IJ (l:=l)<|λy z=>h y<|sr _ z
  rw[List.flatMap_cons,pK,qG,tZ];omega
def Mg {g:α->Int}:∀{l:List α},(∀x∈l,c<=g x)->c*(l.length:Int)<=(l.map g).sum
 |[],_=>A3
 |x::l,h=>by
  have a:=h x<|rW ..
  have b:=Mg (l:=l)<|λy z=>h y<|sr _ z
  rw[pz,qG,tZ,Int.natCast_add,Int.mul_add]
  simp only[Int.natCast_one,Int.mul_one];omega
def Xbc {g:α->Int} {l:List α} (h:∀x∈l,g x<=c):(l.map g).sum<=c*(l.length:Int):=by
 have:=Mg (g:=λx=>- g x) (c:=-c) (l:=l) (λx y=>by have:=h x y;omega)
 have e:(l.map<|λx=>- g x).sum = - (l.map g).sum:=by
  clear h this
  induction l with
  |nil=>rfl
  |cons x l ih=>rw[qG,tZ,ih,qG,tZ];omega
 rw[e,Int.neg_mul] at this;omega
def NC {l:ct} (h:Uc l) {e:En} (y:e∈l):OI e.key=true/\Qd e.val=true:=by
 unfold Uc at h;rw[rT] at h;obtain⟨i,hi⟩:=tj.1 y;have x:=h i<|qm.2 (qp.1 hi).1;unfold FN at x;rw[hi] at x;simp only[qW] at x;exact x.1
def ND {ks:bf} {ps:List<|c3} (h:Tq ks ps):(2<=ks.length/\ks.length<=4/\ps.length+1=ks.length)/\(∀z∈ks,1<=z/\z<256)/\∀p∈ps,OI p=true:=by
 unfold Tq at h;simp only[qW] at h;obtain⟨d,y,b⟩:=h;refine⟨sW d,λz c=>?_,λp a=>?_⟩
 .obtain⟨i,hi⟩:=tj.1 c;rw[rT] at y;have x:=y i<|qm.2 (qp.1 hi).1;unfold Vo at x;rw[hi] at x;simp only[qW,rA] at x;exact⟨x.1,x.2.1⟩
 obtain⟨i,hi⟩:=tj.1 a;exact (G8 b hi).1
structure zy (d:Nd):Prop where
 nk:NK d
 mm:∀m∈d.msgs,MK m
 len:(RH d).length<=248
 sm:d.Sm 255
 lf:d.leaf=true->d.kids=[]/\d.piv=[]/\d.msgs=[]
 inn:d.leaf=false->d.es=[]/\d.piv.length+1=d.kids.length
def GJ (h:BJ d):zy d:=by
 unfold BJ at h;split at h
 .rename_i hl;unfold Gn at h;simp only[qW,rA] at h;obtain⟨⟨o,t⟩,s⟩:=h;have q:d.kids=[]:=pR A1;have j:d.piv=[]:=pR A1;have hm:d.msgs=[]:=pR A1;have y:∀e∈d.es,KP e.key/\KP e.val:=λe y=>⟨fv (NC o y).1,Xc9 (NC o y).2⟩
  have L:=IJ (f:=Qk) (g:=S9) (l:=d.es)<|λe x=>fw (y e x).1 (y e x).2
  have D:=Mg (g:=S9) (c:=2) (l:=d.es) (λe x=>by
   have a:=F7 (NC o x).1;have b:=GP (NC o x).2
   unfold S9;omega)
  unfold lby at s;refine⟨⟨y,by rw[q];simp,by rw[j];simp,by rw[hm];simp⟩,by rw[hm];simp,?_,⟨A1,by rw[q];simp,by rw[j];simp,by rw[hm];simp⟩,λ_=>⟨q,j,hm⟩,λe=>by rw[hl] at e;cases e⟩;unfold RH;rw[q,j,hm];simp only[List.flatMap_nil,sG];omega
 rename_i hl;unfold G9 HE at h;simp only[qW,rA] at h;obtain⟨⟨o,t,s⟩,A⟩:=h;have y:d.es=[]:=pR o;obtain⟨⟨J,G,E⟩,w,r⟩:=ND t
 have hm:∀m∈d.msgs,OD m=true:=λm x=>by
  obtain⟨i,hi⟩:=tj.1 x;exact (G8 s hi).1
 have F:=IJ (f:=λz=>le z 4) (g:=λ_=>4) (l:=d.kids)<|λz _=>by rw[BE];rfl
 have u:=Xbc (g:=λ_:Int=>(4:Int)) (c:=4) (l:=d.kids)<|λ_ _=>Int.le_refl _
 have K:=IJ (f:=txt) (g:=λk=>1+k.n) (l:=d.piv)<|λp j=>Kk<|fv<|r p j
 have B:=Xbc (g:=λk:Kv 8=>1+k.n) (c:=9) (l:=d.piv) (λp j=>by have:=F7<|r p j;omega);have H:=IJ (f:=RN) (g:=Qq) (l:=d.msgs)<|λm x=>fz<|hm m x
 have C:=Mg (g:=Qq) (c:=10) (l:=d.msgs) (λm x=>by
  have a:=J3<|hm m x;unfold Qq;rw[pN<|hm m x];split
  .rename_i q;have:=J4 (hm m x) q;omega
  split<;>omega)
 unfold QC at A;refine⟨⟨by rw[y];simp,λz v=>by have:=w z v;omega,λp j=>fv<|r p j,λm x=>have k:=aN<|hm m x;⟨k.key,k.kd,k.val⟩⟩,λm x=>aN<|hm m x,?_,⟨by rw[y];simp,A1,A1,A1⟩,λe=>absurd e hl,λ_=>⟨y,E⟩⟩;unfold RH;rw[y];simp only[List.flatMap_nil,qU,pK];omega
def IK {k:Kv m} (h:KP k) (hm:m<=255):∀x∈txt k,EU x:=λx y=>by
 obtain⟨j,a,z,_⟩:=h
 rw[Gi z] at y
 rcases pj.1 y with rfl|y
 .exact⟨J,J⟩
 .exact XbR<|k.wb x<|pF y
def QD (z:Int) (k:Nat):∀x∈le z k,EU x:=λx h=>by have:=Pu k z x h;exact⟨this.1,J⟩
def Xgr (h:zy d):∀x∈Ff d,EU x:=by
 have a:=h.sm;have c:EU 0:=⟨A2,A2⟩;intro x y;unfold Ff JO GI RH at y;simp only[rB,pj,rX,rY,List.mem_flatMap,rC] at y;rcases y with (rfl|rfl|rfl|rfl)|y|(⟨e,b,y⟩|⟨z,_,y⟩|⟨p,f,y⟩|⟨m,hm,y⟩)|⟨_,rfl⟩
 .split<;>exact⟨A2,A2⟩
 .have:=a.e;have:=a.k;split<;>exact⟨J,J⟩
 .have:=a.m;exact⟨J,J⟩
 .exact c
 .exact QD _ _ x y
 .unfold Qk at y;rcases rB.1 y with y|y
  .exact IK (h.nk.e e b).1 A2 x y
  exact IK (h.nk.e e b).2 A2 x y
 .exact QD _ _ x y
 .exact IK (h.nk.p p f) A2 x y
 .have k:=h.mm m hm;unfold RN at y;rcases pj.1 y with rfl|y
  .have:=k.kd;exact⟨J,J⟩
  rcases rB.1 y with y|y
  .exact QD _ _ x y
  rcases rB.1 y with y|y
  .exact IK k.key A2 x y
  split at y
  .rename_i hk;exact IK (k.val hk) A2 x y
  split at y
  .exact QD _ _ x y
  cases y
 exact c
def XiV {e:Nr} (h:St w0 D (e::H) w):St w0 D (e::CT sv0 []::CU sv0 []::H) w:=by
 have x:St w0 D (CT sv0 []::CU sv0 []::e::H) w:=St.add (St.add h rfl zG) rfl zG;exact x.perm<|(List.Perm.swap _ _ _).cons _ |>.trans (List.Perm.swap _ _ _)
def XeG (M:BJ d):Df prog 167 [vb] (λw=>Ec w vb dt<|Ff d) [] (λs:N4=>.tuple #[.agg (⟨s,d⟩:NV).c.toArray,aa 0]) Tr (λs=>Bo ⟨s,d⟩):=by
 intro w f hH;have hB:=GJ M;obtain⟨u,T,G,P,X,Y⟩:=id hB;obtain⟨h3,h9,h6,x1⟩:=id P;have q:=Xgr hB;obtain⟨s4,g⟩:∃s,s=le (Gb<|Jm d) 4:=⟨_,rfl⟩
 have S:s4.length=4:=by rw[g,BE]
 have r:Ff d=JO d s4:=Xh;have n:(Ff d).length=256:=by rw[r];exact II S G
 have v:(Ff d).length<=60000:=A1;have c0:(Ff d)[0]?=some (if d.leaf=true then 1 else 2):=rfl;have c1:(Ff d)[1]?=some (if d.leaf=true then (d.es.length:Int) else (d.kids.length:Int)):=rfl;have c2:(Ff d)[2]?=some (d.msgs.length:Int):=rfl;obtain⟨H,J,rfl⟩:=FK f;rw[n] at f ⊢;refine E0 func167 I hH<|Cs I<|LW I<|Ax I I I zeroValue135<|λbr=>Ce NZ.c I<|Ak I<|Ad<|Cs I<|Lm I<|Lq I (AM I O7 I f.kp)<|Lq I (Qn I)<|Nk<|Sb 13 false I (by rw[n];rfl)<|Ab I<|Ah<|Kt<|Cs I<|Lm I<|LW I<|AX (LJ (Ff d) jV) I I I call228 I f.kp<|λvx _=>Ak I<|Cs I<|Lm I<|Dk jV<|λb0 cap pre b hv m B=>?_
 subst hv;rw[n] at m B;rw[n];have F:(Jm d).length=256:=II (by rw[s9]) G;have V:(pre++dt.flat (Ff d)++b).length=pre.length+256+b.length:=by rw[pK,pK,Enc.oU,n];rfl
 refine Lq I (Ik (E:=AI .u8) (l:=Ff d) 4 8 I O7 Z5 I (λ_ h=>by have:=Eh wG dt (Ff d) pre.length cap pre b I I (by rw[n];exact m);rwa[n] at this) I I I I A2 jV)<|LH 18 (.slice (some ⟨b0,pre.length+4,none⟩) 4<|cap-4) I ZGn<|LW I<|Xa7 I I O7 Gt I I I I (by rw[V];omega)<|Ce (pre++dt.flat (Jm d)++b) (by rw[r];exact LP pre b d (t:=List.replicate 4 0) S<|by rw[s9])<|Ns<|Ad<|LZ [0,2,3,1,4,5] 675 (λW=>Ec W (.slice H 256 J) dt<|Ff d) I St.drawn f.kp<|Md 2 I<|Dq I (Ik 4 8 I O7 Z5 I Ih I I I I A1 A1)<|MX I<|AX (Gy (Jm d)<|by rw[F];decide) I I I call218 I (λ_ h=>(by have:=Eh wG dt (Jm d) pre.length cap pre b I I (by rw[F];exact m);rwa[F] at this))<|λv3 _=>Ai f.kp<|KC I<|E1 (GC s4) I call229 (λ_ h=>⟨by rw[g];exact h.rd 0 rfl,by have:=Cg (f.keep h A3) (lo:=4) (hi:=8) A2 jV;rw[r,aG S] at this;exact this⟩) ?_
 intro _ _;refine KC I<|OC I I (Qt I)<|AN<|Kt<|Ab I<|Ah<|Kt<|Cs I<|Lm I<|Lq I (AS ([.slice H 256 J,aa 8,.bool false]) I I uX)<|LW I<|AT I I I I<|λo=>Ce [.slice H 256 J,aa 8,.bool false] I<|Ak I<|Ad<|LZ (rg 17) 92470734 (λW=>Ec W (.slice H 256 J) dt<|Ff d) I St.drawn f.kp<|Dm I<|Dq I (Aw 0 I O7 Z5 I Ih I I)<|Dq I (AO 0 0 I G5 I I Ih c0 I)<|Dq I (Qe I)<|Dq I (AS ((NV.c (⟨n40,⟨(decide ((if d.leaf=true then 1 else 2:Int)=1)),[],[],[],[]⟩⟩:NV))) I I uX)<|Dm I<|Dq I (Aw 1 I O7 Z5 I Ih I I)<|Dq I (AO 1 0 I G5 I I Ih c1 I)<|Dq I (Br I U5 U3 I<|Co<|by split<;>omega)<|Dm I<|Dq I (Aw 2 I O7 Z5 I Ih I I)<|Dq I (AO 2 0 I G5 I I Ih c2 I)<|Dq I (Br I U5 U3 I<|Co A1)<|MX I<|Ax I I I zeroValue135 ?_
 intro bn;refine Ce NZ.c I<|Ai f.kp<|MX I<|SW AK I (NV.one _)<|Ai f.kp<|Sz I<|KC I<|OC I I uW<|AN<|Ks<|Ad ?_;have O:(decide ((if d.leaf=true then 1 else 2:Int)=1))=d.leaf:=by cases d.leaf<;>rfl
 rw[O];refine Pre.fact (λ_ h=>NB f h (i:=1) I A3 A1)<|λA=>AQ<|Ae<|AQ<|Ae ?_
 have C:(Ff d).drop 8=d.es.flatMap Qk++(d.kids.flatMap (λz=>le z 4)++(d.piv.flatMap txt++(d.msgs.flatMap RN++List.replicate (248-(RH d).length) 0))):=by rw[r,Xgk S];unfold RH;simp only[qQ]
 refine Cr I<|EJ Bj I Z4 I<|Lo G4 0 I<|Nk ?_;refine ES (λ(s:N4)=>[(0,(.slice H 256 J)),(2,pV br),(5,pV o),(6,pV bn),(8,aa (d.msgs.length:Int))]) (λ(s:N4)=>St w [] [Ct s.e d.es,CT s.k d.kids,CU s.p d.piv,Ac bn 135 (⟨⟨s.e,s.k,s.p,sv0⟩,{d with msgs:=[]}⟩:NV).c,Ac o 330 [(.slice H 256 J),aa (((8+((d.es.flatMap Qk).length+((d.kids.flatMap<|λz=>le z 4).length+(d.piv.flatMap txt).length))):Nat):Int),.bool false],Ac br 135 NZ.c]) (λ(s:N4)=>True) ?_ ?_
 .refine Pre.PY 43 I (λy=>?_) (λy=>?_)
  .have D:=X y;obtain⟨U,Q,hm0⟩:=D;refine Am I<|Cr I<|Mv 2 I<|Lq I (BU (fn:=.func 0) (vs:=#[pV o]) (us:=#[]) 231 I (λa k=>by simp[k.eval (x:=.tmp 45) rfl]) Vu)<|LH 44 (aa (d.es.length:Int)) I (by rw[pN y])<|Pm [1] I<|LW I<|GZ (fq (xs:=d.es) (Ff d) o 8 A v q u.e A1 C) I I I call230 I f.kp<|λh2 _=>EJ Bj I RQ I<|Ux ?_
   rintro⟨se,rfl⟩;refine AQ<|LW I<|AB I I RQ I I I dA<|Ce (⟨⟨se,sv0,sv0,sv0⟩,{d with msgs:=[]}⟩:NV).c zd<|AE<|Pm [1] I ?_
   exact Bf (⟨se,sv0,sv0,sv0⟩) trivial (Si I) (λ_ h=>by
    dsimp only;rw[U,Q]
    exact XiV h)
  have D:=Y y;obtain⟨R,h5⟩:=D;have j:=DI C;have L:=DI j;have N:(d.es.flatMap Qk).length=0:=by rw[R];rfl
  rw[N] at j L;refine Ab I<|Cs I<|Mv 2 I<|Lq I (BU (fn:=.func 0) (vs:=#[pV o]) (us:=#[]) 233 I (λa k=>by simp[k.eval (x:=.tmp 50) rfl]) Vu)<|LH 49 (aa (d.kids.length:Int)) I (by rw[pQ Zi])<|Pm [1] I<|LW I<|GZ (Xh4 (xs:=d.kids) (Ff d) o (8+0) A v q u.k A1 j) I I I call232 I f.kp<|λh8 _=>EJ Bj I OQ I<|Ux ?_
  rintro⟨Z,rfl⟩;refine AQ<|LW I<|AB I I OQ I I I dB<|Ce (⟨⟨sv0,Z,sv0,sv0⟩,{d with msgs:=[],piv:=[]}⟩:NV).c zd<|Nk<|Cr I<|Lm I<|Lq I (Ci I I I<|by split<;>omega)<|Lm I<|Lq I (BU (fn:=.func 0) (vs:=#[pV o]) (us:=#[]) 235 I (λa k=>by simp[k.eval (x:=.tmp 56) rfl]) Vu)<|LH 55 (aa (d.piv.length:Int)) I (by rw[pQ Zi];exact congrArg (Value.int .i64) A1)<|Pm [2] I<|LW I<|GZ (aL (xs:=d.piv) (Ff d) o (8+0+(d.kids.flatMap<|λz=>le z 4).length) A v q u.p A1 L) I I I call234 I f.kp<|λh7 _=>EJ Bj I Eo I<|Ux ?_
  rintro⟨sp,rfl⟩;refine AQ<|LW I<|AB I I Eo I I I dF<|Ce (⟨⟨sv0,Z,sp,sv0⟩,{d with msgs:=[]}⟩:NV).c I<|AE<|Pm [3,1] I ?_
  exact Bf (⟨sv0,Z,sp,sv0⟩) trivial (Si I) (λ_ h=>by
   dsimp only;rw[N,qK,<-qS,R]
   exact St.add h I zG)
 intro s _;have j:=DI<|DI<|DI C;refine Cs I<|Mv 2 I<|Lq I (BU (fn:=.func 0) (vs:=#[pV o]) (us:=#[]) 237 I (λa k=>by simp[k.eval (x:=.tmp 61) rfl]) Vu)<|Pm [4] I<|LW I<|GZ (aM (xs:=d.msgs) (Ff d) o (8+((d.es.flatMap Qk).length+((d.kids.flatMap<|λz=>le z 4).length+(d.piv.flatMap txt).length))) A v q T A1<|by rw[<-j];exact congrArg (λk=>(Ff d).drop k) A1) I I I call236 I f.kp<|λh1 _=>EJ Bj I DS I<|Ux ?_
 rintro⟨K,rfl⟩;exact B7<|LW I<|AB I I DS I I I Yj<|Ce (⟨⟨s.e,s.k,s.p,K⟩,d⟩:NV).c I<|Ns<|Cs I<|Lq I (Cq ((⟨⟨s.e,s.k,s.p,K⟩,d⟩:NV).c) AV AK 0 I (I)<|I)<|Pm [3,3,3,1] I<|LW I<|Wo (Ki (⟨⟨s.e,s.k,s.p,K⟩,d⟩:NV) M u G P) I I I call145 I Tt<|λvy _=>Lm I<|Mv 3 I<|Ak I<|Cs I<|Mv 2 I<|EJ JB I Z4 I<|Lo G4 6 I<|Mv 5 I<|Sb 78 false I (I)<|Mv 2 I<|LW I<|E1 (GC<|Ff d) I call229 (λ_ h=>⟨h.rd 0 rfl,f.keep h A3⟩)<|λ_ _=>Lq I (Qt I)<|Lq I (Qz I)<|Nk<|Ab I<|Ah<|Kt<|Cs I<|Lq I (Cq ((⟨⟨s.e,s.k,s.p,K⟩,d⟩:NV).c) AV AK 5 I (I)<|I)<|FL<|LW I<|SW AK I (NV.one _)<|Ak I<|Al<|Pm [0,1,1,1,1] I<|C1 I (AL I AV AK uP<|I) (id I)<|λ_ h=>⟨⟨s.e,s.k,s.p,K⟩,rfl,T0,(h.drop).sublist<|((sj _).cons_cons _ |>.cons_cons _ |>.cons_cons _ |>.cons_cons _)⟩
section
variable {P:d8} {n:Nat} {L:Env} {o:Oper} {Q:aB} {K:aO} {w0:d7} {D:bm}
def XiW {v:β->d0} {p:β->Prop} {F:ci} {HB:β->ci} {d:Nat} (s:Df P f vs E HA v p HB) (c:o.op=.call ⟨.value<|.func f,xs.toArray,ts⟩) (hd:o.dst=some d) (a:d.blt n)
 (e:∀us w,(callFunc f us).run P w=.ok (.enter f us) w) (y:evs L xs=some vs) (z:∀w,St w0 D (HA++F) w->E w) (h:∀b,p b->Pre n ((d,v b)::L) (St w0 D<|HB b++F) K):Nl P n L (St w0 D<|HA++F) o Q K :=
 DA c hd a e y (λw x=>s.frame (F:=F) x<|z w x) h
end
def WO (d:Nd) (h:(RH d).length<=248):Bk:=⟨Ff d,II (BE _ _) h⟩
def XiX (l:x.s.Ok) {k:Nat} (i:x.s.us[k]?=some true) {bk:Bk} (g:x.s.bl[k]?=some bk) {nv:NV} (z:BJ nv.d) (a:NK nv.d) (y:(RH nv.d).length<=248) (b:nv.d.Sm 255):Df prog 90 [BM x.bh,aa (k:Int),.agg nv.c.toArray] Tr ((Bo nv++x.H)) (λ_:Unit=>.tuple #[]) Tr (λ_=>Bo nv++(x.RI<|x.s.put k<|WO nv.d y).H):=by
 intro w o j;refine Ey func90 I j<|Y I<|Z I<|AT I I I I<|λn=>M nv.c I<|G<|Y I<|U I hG<|Pm [1,1,1,1] I<|Z I<|XiW (HA:=Bo nv) (F:=_::HQ.H x) (Ki nv z a y b) I I I call145 I Tt<|λf _=>Pre.world (St _ _<|AG f 5 dt (Ff nv.d)::Ct nv.s.e nv.d.es::CT nv.s.k nv.d.kids::CU nv.s.p nv.d.piv::C5 nv.s.m nv.d.msgs::_::HQ.H x) Ih<|C 4 I<|A I<|Y I<|C 2 I<|G<|Sb 14 true I (I)<|Am I<|Cr I<|C 2 I<|N Pz I Xe I<|Lo Xb 6 I<|C 2 I<|Pm [6,6,6,6,6,6] I ?_
 refine Pm [11,7,7,7,7,6] I<|Z I<|Ee [_,_,_,_,_] (XbB (nb:=(WO nv.d y)) l i g) I call146 Tt<|λ_ _=>Pre.world (St _ _<|_::_::_::_::_::_::HQ.H (x.RI<|x.s.put k<|WO nv.d y)) Ih ?_
 exact AE<|AW<|Pm [0,4] I<|Ae<|Ae<|Bl I xm
def Hm.UJ (N:Nat->Nd) (L:Hm):Nd:=if (L.M.Me 0 2).isSome=true then L.nd 0 else N 0
structure Ui (N:Nat->Nd) (L:Hm):Prop where
 sm:(L.UJ N).Sm 50000
 d:(L.M.Me 0 2).isSome=false->L.s.us[0]?=some true/\∃bk,L.s.bl[0]?=some bk/\IE bk.l (N 0)