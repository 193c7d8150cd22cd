/- Part 9. -/
import Derived.Test.YtloldofjddbjoaaGreatJ8
set_option linter.all false
set_option maxHeartbeats 8000000
set_option maxRecDepth 100000
namespace Go.Proofs.YtloldofjddbjoaaGreat.Lt
open Go.Sep Go.RowKit Tryz
variable {n a b:Nat} {m:La} {va v:d0} {w0 w:d7} {D:bm} {l:bf} {T U t:d4} {cs us:bi} {L:Env} {F:aO} {α:Type}
def aX (l:bf) (x:Int) (a:l.length<=65536):Df prog 105 [va,aa x] (λw=>Ec w va ds l) [] (λ_:Unit=>.bool<|decide (x∈l)) Tr (λ_=>[]):=by
 intro w c b;refine E0 func105 I b ?_;exact Y I<|A I<|Y I<|Mv 2 I<|Z I<|E1 (index_spec l x a) I call157 c.kp<|λz y=>Lq I (Qg I)<|A I<|Al<|Av I I<|λ_ h=>⟨(),congrArg Eb y.iff,T0,h⟩
def Xc4 (y:Wt) (b:Nat) (t:Int):Df prog 285 [.agg (RU.f y).toArray,pV b] Tr [Ac b 3 [aa t]] (λ_:Unit=>.bool<|decide (y.1=t)) Tr (λ_=>[Ac b 3 [aa t]]):=by
 intro w z x;refine enter (n:=8) (vs:=[.agg (RU.f y).toArray,pV b]) (St w [b] [Ac b 3 [aa t]]) func285 I I I aQ ?_;exact ZEX
def yu (l:List Wt) (b:Nat) (d:blk va≠b\/l=[]) (t:Int) (o:l.length<=65536):Df prog 188 [va,.func (.func 285) #[] #[pV b]] (λw=>Ec w va RU l) [Ac b 3 [aa t]] (λz:Int=>aa z) (λz=>gB l t z) (λ_=>[Ac b 3 [aa t]]):=by
 intro w c i;refine enter (n:=19) (vs:=[va,.func (.func 285) #[] #[pV b]]) (St w [b] [Ac b 3 [aa t]]) func188 I I I (St.init i) ?_;refine Y I<|A I<|Ad<|Y I<|r I<|Lq I (AM I Fa I<|λ_ h=>c.fB h ye)<|uG ?_;refine Bm (λ(k:Nat)=>[(0,va),(1,.func (.func 285) #[] #[pV b]),(7,aa (l.length:Int)),(8,aa (k:Int))]) (λ(k:Nat)=>St w [b] [Ac b 3 [aa t]]) (λ(k:Nat)=>k<=l.length/\t∉(l.take k).map Prod.fst) (λ(k:Nat)=>l.length-k) (0) ⟨qc _,A3⟩ (Si I) Ih<|λk g=>Ad ?_
 obtain⟨j,x⟩:=g;refine Cr I<|Lq I (Ql I)<|Ns<|CB 9 I (λf=>?_)<|λf=>?_
 .obtain⟨y,e⟩:=gE l k;refine Am I<|Ah<|Ks<|Af<|Y I<|r I<|A I<|Y I<|Mv 3 I<|Lq I (Aw k I Fa Jj I (λ_ h=>c.fB h ye) I I)<|Lq I (Bc k I isAgg241 Jj I I (λ_ h=>c.fB h ye) e)<|Z I<|Hr (β:=Unit) (X':=λ_=>St w _ [Ac b 3 [aa t]]) (v:=λ_=>.bool<|decide (y.1=t)) (p:=λ_=>True) I I I I call285 I ZKW<|λ_ _=>Nk<|CB 16 I (λa=>?_)<|λa=>?_
  .exact Am I<|Y I<|r I<|A I<|Al<|AA<|Ag<|Ag<|AA<|Ag<|Av I I<|λ_ h=>⟨(k:Int),rfl,.inr ⟨k,y,rfl,e,a⟩,h⟩
  refine Tm ?_;exact AJ (k+1) J ⟨J,XgR x e a⟩ (Si I) Jx
 exact Ab I<|AP<|Aa<|Aa<|Ar<|Kt<|Y I<|A I<|Al<|Av I I<|λ_ h=>⟨-1,rfl,.inl ⟨rfl,by rw[pZ J] at x;exact x⟩,h⟩
def yZ {k:Nat} (h:k<l.length):l[k]?=some (l.getD k 0):=by simp[sY,h]
def VC (y:l.Pairwise (·<·)) {i j:Nat} (hj:j<l.length) (x:i<=j):l.getD i 0<=l.getD j 0:=by
 rcases pG i j with h|h
 .have:=tK.1 y i j J hj h;simp only[sY,pE hj,pE (show i<l.length by omega),qx];omega
 rw[show i=j by omega];exact Int.le_refl _
def XeP (l:bf) (x:Int) (q:l.Pairwise (·<·)) (A:l.length<=65536):Df prog 286 [va,aa x] (λw=>Ec w va ds l) [] (λz:Nat×Bool=>.tuple #[aa (z.1:Int),.bool z.2]) (λz=>z.1<=l.length/\(∀k,k<z.1->l.getD k 0<x)/\∀h:z.1<l.length,x<=l.getD z.1 0) (λ_=>[]):=by
 intro w b s;refine E0 func286 I s<|Y I<|Nh I<|Ak I<|Y I<|Lm I<|Lq I (AM I KI I b.kp)<|Ak I<|Y I<|Mv 2 I<|Ak I<|Ad<|Af ?_;refine B6 (λ(i:Nat) (j:Nat)=>[(0,va),(1,aa x),(6,aa (l.length:Int)),(7,aa (i:Int)),(8,aa (j:Int))]) (λ(i:Nat) (j:Nat)=>St w [] []) (λ(i:Nat) (j:Nat)=>i<=j/\j<=l.length/\(∀k,k<i->l.getD k 0<x)/\∀k,j<=k->k<l.length->x<=l.getD k 0) (λ(i:Nat) (j:Nat)=>j-i) (0) l.length ⟨qc _,qb _,λk p=>absurd p<|s6 _,λk o n=>J⟩ (Si I) Ih<|λi j r=>Ad<|Ad ?_
 obtain⟨t,hj,y,a⟩:=r;refine Cr I<|Mv 3 I<|Nk<|CB 15 I (λm=>?_)<|λm=>?_
 .obtain⟨hm,v⟩:∃hm:Nat,hm=(i+j)/2:=⟨_,rfl⟩
  have u:((i:Int)+(j:Int)).fdiv 2=(hm:Int):=by rw[tP _ J];omega
  refine Am I<|Ah<|Kt<|Af<|Y I<|Mv 2 I<|Lq I py<|Lq I (Br I U3 dI I<|D4)<|Lq I (Xj4 hm I I I u)<|Lq I (Br I dI U3 I zW)<|Ak I<|Y I<|Mv 2 I<|Lq I (Aw hm I KI Z3 I b.kp I I)<|Lq I (AO hm 0 I G3 I I b.kp (yZ J) I)<|Lm I<|Z I<|E1 (XgU (l.getD hm 0) x) I call302 Tt<|λ_ _=>Nk<|CB 27 I (λf=>?_)<|λf=>?_
  .refine Am I (gZ ?_);exact AJ ((hm+1,j)) A4 ⟨A4,hj,λk p=>Int.lt_of_le_of_lt (VC q J<|show k<=hm by omega) f,a⟩ (Si I) Jx
  refine Ab I (Cr I<|Mv 2 I<|AE<|Au ?_);exact AJ ((i,hm)) A4 ⟨A4,A4,y,λk o n=>tB (Int.not_lt.1 f)<|VC q n o⟩ (Si I) Jx
 have e:i=j:=by omega
 subst e;refine Ab I<|AP<|Aa<|Aa<|Ar<|Kt<|Y I<|Mv 5 I<|CB 35 I (λd=>?_)<|λd=>?_
 .refine Mv 2 I (Lq I (Aw i I KI Z3 I b.kp I I)<|Lq I (AO i 0 I G3 I I b.kp (yZ J) I)<|Mv 3 I<|CB 42 I (λg=>?_)<|λg=>?_)
  .exact Mv 12 I<|Ak I<|Al<|Bw (rs:=[.tmp 4,.tmp 5]) I I<|λ_ h=>⟨(i,true),rfl,⟨hj,y,λc=>a i (qb _) c⟩,h⟩
  exact Mv 2 I<|Lq I (Aw i I KI Z3 I b.kp I I)<|Lq I (AO i 0 I G3 I I b.kp (yZ J) I)<|Z I<|E1 (XgS _) I call303 Tt<|λ_ _=>Lm I<|Mv 6 I ZAR
 exact Mv 19 I ZAR
def XfB (l:bf) (x:l.length<=65536):Df prog 107 [va] (λw=>Ec w va ds l) [] (λv:d0=>v) Tr (λv=>[AG v 3 ds l]):=by
 intro w z d;obtain⟨a,c,rfl⟩:=FK z;refine E0 func107 I d<|Y I<|A I<|Ad<|Y I<|r I<|Lq I (Hq I KI I I)<|Nk<|Pre.PY 4 I (λx=>?_)<|λx=>?_
 .exact ZBF
 refine Ab I (Ah<|Kt<|Y I<|Z I<|As (sz:=1) [] I I I I I KI Z3 I zeroValue3 I<|λb=>Sj ds [] I I<|r I<|Z I<|Ap KI KI CD I z.kp A8<|λv=>A I<|Al ?_);rw[qU];exact uc
def Xe7 (l:List Wt) (x:l.length<=65536):Df prog 189 [va] (λw=>Ec w va RU l) [] (λv:d0=>v) Tr (λv=>[AG v 241 RU l]):=by
 intro w z d;obtain⟨a,c,rfl⟩:=FK z;refine E0 func189 I d<|Y I<|A I<|Ad<|Y I<|r I<|Lq I (Hq I Fa I I)<|Nk<|Pre.PY 4 I (λx=>?_)<|λx=>?_
 .rw[ti] at x;subst x;have y:=FQ z;subst y;exact Am I<|Y I<|A I<|Al<|Ag<|row0 241 RU none vI
 refine Ab I (Ah<|Kt<|Y I<|Z I<|As (sz:=2) [] I I I I I Fa Jj I zeroValue241 I<|λb=>Sj RU [] I I<|r I<|Z I<|Ap Fa Fa PO I z.kp A8<|λv=>A I<|Al ?_);rw[qU];exact uc
def eJ:Extern.find Tryz.f304=some (Extern.SlicesOverlaps.overlaps #[22,22] #[4]):=by kernel_rfl
def eK:Extern.findNext Tryz.f304=none:=by kernel_rfl
def eN:Tryz.f304.body.isNone=true:=by kernel_rfl
def eO:(Tryz.f304.name == "runtime.NumGoroutine")=false:=by kernel_rfl
def mE {H:ci} {h:St w0 D (Ac a T cs::Ac b U us::H) w}:a≠b:=by
 have:=h.hp.nodup;intro e;subst e;simp[Sep.dom,Ac] at this
def XjY {a b:Nr} (k:Pre n L (St w0 D [a]) F):Pre n L (St w0 D [a,b]) F:=k.world _<|λ_ s=>s.sublist j
def XjZ {a b c:Nr} (k:Pre n L (St w0 D [a]) F):Pre n L (St w0 D [a,b,c]) F:=k.world _<|λ_ s=>s.sublist j
def XeZ (l:bf) (i:Nat) (t:Int) (N:Nat) (hi:i<=l.length) (P:l.length<=65536):Df prog 287 [v,aa (i:Int),.slice (some ⟨N,0,none⟩) 1 1] Tr [AG v 3 ds l,Ac N 3 [aa t]] (λv:d0=>v) Tr (λv=>[AG v 3 ds<|l.take i++t::l.drop i]):=by
 intro w V S;have k:(l.take i++t::l.drop i).length=l.length+1:=gg;refine Ey func287 I S<|Cs I<|Ak I<|Cs I<|Mv 2 I<|Lq I (DC i I KI Z3 I ur I I A1)<|Nk<|Cs I<|Lm I<|Lq I Zx<|Ak I<|Ad<|Cs I<|Mv 2 I<|Nk<|Sb 16 false I (I)<|Ab I<|Ah<|Kt<|Cs I<|Lm I<|Lq I Xg<|Ak I<|Ad<|Cs I<|Mv 3 I<|Nk<|CB 22 I (λP=>?_)<|λP=>?_
 .have K:i=l.length:=by omega
  exact Am I<|Cs I<|Mv 2 I<|LW I<|Ap KI KI CD I ig A8<|λO=>Ak I<|Al<|Ag<|Ba (l':=l.take i++t::l.drop i) (by subst K;simp)<|AD<|Ae<|Av I I<|λ_ h=>⟨O,rfl,T0,h⟩
 have T:i<l.length:=by omega
 refine Dk A1<|λf cap pre y U q g=>?_
 subst U;refine Ab I<|Ah<|Ks<|Cs I<|Mv 2 I<|Lq I (AZ I I I)<|Lm I<|Lq I (mf I KI I)<|Lq I vd<|Nk<|CB 31 I (λA=>?_)<|λA=>?_
 .have n:y.length=cap-l.length:=by rw[g];exact sZ _
  have o:=ds.oU l;have z:ds.sz=1:=rfl;rw[z,sZ] at o;have C:∀(B M:d7) (D:bm) (H:ci),St M D H B->(Ac f 3<|pre++ds.flat l++y)∈H->Ec B (.slice (some ⟨f,pre.length,none⟩) l.length cap) ds l:=λB M D H h hm=>Eh (h.hp.holds _ hm) _ l pre.length cap pre y rfl rfl q
  refine Am I<|Cs I<|Mv 2 I<|Lq I (GY i I KI Z3 I I I A1)<|Mv 2 I<|Lq I (AZ I I I)<|Lm I<|Lq I yw<|LH 39 (aa ((l.length+1-i:Nat):Int)) I (by congr 1;omega)<|LW I<|JY (E:=AI .i64) (l:=l.take i) (m:=l.length+1-i) (a0:=(0:Int)) I I I KI U3 CD I I I I I ?_ ?_ ?_ ?_ ?_
  .intro B h;have p:=Cg (C _ _ _ _ h<|rW ..) (lo:=0) (hi:=i) (qc _) A1;have j:Oy (.slice (some ⟨f,pre.length,none⟩) l.length cap) ds.sz 0 i=.slice (some ⟨f,pre.length,none⟩) i cap:=jf;rw[j] at p;simpa using p
  .show cap<(l.take i).length+(l.length+1-i)
   rw[pI];omega
  .rw[pI];simp only[jh];omega
  .rw[pI];omega
  intro O;refine Ak I<|Cs I<|Mv 2 I ?_;have u:(l.take i++List.replicate (l.length+1-i) (0:Int)).length=l.length+1:=gg;refine Dk A1<|λQ b x a G s c=>?_
  subst G;rw[u] at s c;rw[u];have R:a.length=b-(l.length+1):=by rw[c];exact sZ _
  have F:(x++ds.flat (l.take i)).length=x.length+i:=by rw[pK,Enc.oU,pI,z];omega
  have d:(x++ds.flat (l.take i++List.replicate (l.length+1-i) (0:Int))++a).length=x.length+(l.length+1)+a.length:=by rw[pK,pK,Enc.oU,u,z];omega
  refine Lq I iy<|Lm I<|LH 43 (.slice (some ⟨Q,x.length+i,none⟩) (l.length+1-i)<|b-i) I (by rw[pQ (show ¬b=i by omega),sZ])<|LW I<|Hw (E:=AI .i64) (sc':=1) (m:=[t]) 1 I I I KI Z3 I I A1 (λ_ h=>AR Wj ds [t] I I) (by rw[d,z];omega)<|Ns<|LZ (rg 9) 13122 _ I St.drawn Ih<|Md 3 I<|Dq I (Qi I)<|Dq I iO<|Md 2 I<|Dq I iy<|LH 50 (.slice (some ⟨Q,x.length+(i+1),none⟩) (l.length+1-(i+1))<|b-(i+1)) I (by rw[pQ (show ¬b=i+1 by omega),sZ])<|LH 53 (.slice (some ⟨f,pre.length+i,none⟩) (l.length-i)<|cap-i) I mX<|KC I ?_;refine Hw (E:=AI .i64) (sc':=cap-i) (m:=l.drop i) (l.length-i) I I I KI Z3 I I A1 (λB h=>?_) (by rw[Jz,d,z];omega) ?_
  .have p:=Cg (C _ _ _ _ h<|sr _<|rW ..) (lo:=i) (hi:=l.length) A1 (qb _);have j:Oy (.slice (some ⟨f,pre.length,none⟩) l.length cap) ds.sz i l.length=.slice (some ⟨f,pre.length+i,none⟩) (l.length-i) (cap-i):=by simp[Oy,BT,show ¬cap=i by omega,z]
   rw[j] at p;simpa using p
  refine AN<|Kt<|Cs I<|Lm I<|Ak I<|Al<|Ag<|F6 (E:=AI .i64) (len:=l.length+1) (cap:=b) (l.take i++t::l.drop i) x a ?_ k A1 A1 c ?_
  .rw[Enc.pe,<-qQ,<-F];have hd:=XeW (x++ds.flat (l.take i)) (ds.flat<|List.replicate (l.length+1-i) 0) a (ds.flat<|l.drop i) (aa t)<|by rw[Enc.oU,Enc.oU,s9,pJ,z];omega
   rw[F,qS] at hd;rw[F];refine hd.trans ?_;rw[Enc.pe,Enc.pg,qQ x];rfl
  exact XjZ vI
 have n:y.length=cap-l.length:=by rw[g];exact sZ _
 have o:=ds.oU l;have z:ds.sz=1:=rfl;rw[z,sZ] at o;have d:(pre++ds.flat l++y).length=pre.length+l.length+y.length:=by rw[pK,pK,o]
 have F:(pre++ds.flat (l.take i)).length=pre.length+i:=by rw[pK,Enc.oU,pI,z];omega
 refine Ab I<|Ah<|Kt<|Cs I<|Mv 3 I<|Lq I (AZ I I I)<|Lq I (GY (l.length+1) I KI Z3 I I I A1)<|Ak I<|Ad<|Cs I<|Mv 4 I<|Lq I (AZ I I I)<|Lq I iO<|Pre.fact (λ_ h=>mE (h:=h))<|λJ=>LW I<|Xfc (t:=22) (r:=4) (e:=3) I I I func304 eN eO eK eJ KI Z3 I I uq uP (λe=>J e.symm) (by intro e;rw[e] at d;simp at d;omega)<|Lq I (Qt I)<|Nk<|Am I<|Ad<|LZ (rg 9) 13122 _ I St.drawn Ih<|Md 3 I<|Dq I (Qi I)<|Dq I iO<|Md 2 I<|Dq I iy<|LH 73 (.slice (some ⟨f,pre.length+(i+1),none⟩) (l.length+1-(i+1))<|cap-(i+1)) I (by rw[pQ (show ¬cap=i+1 by omega),sZ])<|LH 76 (.slice (some ⟨f,pre.length+i,none⟩) (l.length+1-i)<|cap-i) I mX<|KC I ?_
 refine Hw (E:=AI .i64) (sc':=cap-i) (m:=l.drop i) (l.length-i) I I I KI Z3 I I A1 (λB h=>?_) (by rw[d,z];omega) ?_
 .have p:=Cg (Eh (h.at 0 rfl) _ l pre.length cap pre y rfl rfl q) (lo:=i) (hi:=l.length) A1 (qb _);have j:Oy (.slice (some ⟨f,pre.length,none⟩) l.length cap) ds.sz i l.length=.slice (some ⟨f,pre.length+i,none⟩) (l.length-i) (cap-i):=by simp[Oy,BT,show ¬cap=i by omega,z]
  rw[j] at p;simpa using p
 refine AN<|Kt<|Cs I<|Mv 2 I<|Lq I iy<|Lm I<|LH 80 (.slice (some ⟨f,pre.length+i,none⟩) (l.length+1-i)<|cap-i) I mX<|LW I<|Hw (E:=AI .i64) (sc':=1) (m:=[t]) 1 I I I KI Z3 I I A1 ig (by rw[Jz,d,z];omega)<|Nk<|Cs I<|Lm I<|Ak I<|Al<|Ag<|F6 (E:=AI .i64) (len:=l.length+1) (cap:=cap) (l.take i++t::l.drop i) pre (y.drop 1) ?_ k A1 A1 (by rw[pJ,n,z];omega) ?_
 .have L:=XfN (pre++ds.flat (l.take i)) (ds.flat<|l.drop i) y (aa t) (by intro e;rw[e] at n;simp at n;omega);rw[F,qS,qQ pre,<-Enc.pe,qV] at L;refine L.trans ?_;rw[Enc.pe,Enc.pg,qQ pre];rfl
 exact XjY vI
def Xe0 (l:bf) (i:Nat) (hi:i<l.length) (g:l.length<=65536):Df prog 249 [v,aa (i:Int),aa<|(i:Int)+1] Tr [AG v 3 ds l] (λv:d0=>v) Tr (λv=>[AG v 3 ds<|l.eraseIdx i]):=by
 intro w f a;obtain⟨y,z,cc,rfl⟩:=L5 xQ wK;refine Ey func249 I a<|Ad<|Pre.fact xI<|λx=>Cr I<|A I<|Y I<|Mv 4 I<|Lq I Xg<|Lq I (JX i (i+1) l.length I KI Z3 I ur I I I I I I J J J)<|Ns<|Y I<|Mv 3 I<|Nk<|Sf 16 I J<|Ab I<|Ah<|Kt<|Y I<|r I<|Lq I Xg<|A I<|Ad ?_
 refine LZ (rg 8) 729 Tr I St.drawn Tt<|Md 2 I<|Dq I (GY i I KI Z3 I I I (by have:l.length<=cc:=x;omega))<|Md 2 I<|Dq I iO<|LH 22 (Oy (.slice (some ⟨y,z,none⟩) l.length cc) ds.sz 0 i) I jf<|LH 25 (Oy (.slice (some ⟨y,z,none⟩) l.length cc) ds.sz (i+1) l.length) rfl ZFO ?_;have b:l.length<=Vr (.slice (some ⟨y,z,none⟩) l.length cc):=x;refine MX I<|JE i I I I KI KI Z3 I I lT (by simp only[pJ,pI];omega)<|λd e=>Ba (l':=l.eraseIdx i) (by rw[tg,th]) ?_
 have c:(l.eraseIdx i).length=l.length-1:=ZIG;exact Ai Tt<|Sz I<|AN<|Kt<|Y I<|Mv 2 I<|Lq I Xg<|r I<|Lq I (ME (l.eraseIdx i).length l.length I KI Z3 I ur I I I I J J)<|Z I<|Io I I KI CD I I K I J J zO
def yS (l:List Wt) (i:Nat) (hi:i<l.length) (g:l.length<=65536):Df prog 251 [v,aa (i:Int),aa<|(i:Int)+1] Tr [AG v 241 RU l] (λv:d0=>v) Tr (λv=>[AG v 241 RU<|l.eraseIdx i]):=by
 intro w f a;obtain⟨y,z,cc,rfl⟩:=L5 xQ wK;refine Ey func251 I a<|Ad<|Pre.fact xI<|λx=>Cr I<|A I<|Y I<|Mv 4 I<|Lq I (AM I Fa I ur)<|Lq I (JX i (i+1) l.length I Fa Jj I ur I I I I I I J J J)<|Ns<|Y I<|Mv 3 I<|Nk<|Sf 16 I J<|Ab I<|Ah<|Kt<|Y I<|r I<|Lq I (AM I Fa I ur)<|A I<|Ad ?_
 refine LZ (rg 8) 729 Tr I St.drawn Tt<|Md 2 I<|Dq I (GY i I Fa Jj I I I (by have:l.length<=cc:=x;omega))<|Md 2 I<|Dq I (DQ (i+1) I Fa Jj I I I J)<|LH 22 (Oy (.slice (some ⟨y,z,none⟩) l.length cc) RU.sz 0 i) I jf<|LH 25 (Oy (.slice (some ⟨y,z,none⟩) l.length cc) RU.sz (i+1) l.length) rfl ZFO ?_;have b:l.length<=Vr (.slice (some ⟨y,z,none⟩) l.length cc):=x;refine MX I<|JE i I I I Fa Fa Jj I I lT (by simp only[pJ,pI];omega)<|λd e=>Ba (l':=l.eraseIdx i) (by rw[tg,th]) ?_
 have c:(l.eraseIdx i).length=l.length-1:=ZIG;exact Ai Tt<|Sz I<|AN<|Kt<|Y I<|Mv 2 I<|Lq I (AM I Fa I ur)<|r I<|Lq I (ME (l.eraseIdx i).length l.length I Fa Jj I ur I I I I J J)<|Z I<|Io I I Fa PO I I K I J J zO
abbrev LT (b:Nat) (vR vQ:d0) (m:La):ci:=[Ac b 275 [aa m.pins,vR,aa m.wr,vQ],AG vR 3 ds m.rd,AG vQ 241 RU m.q]
def Xj0 {W:d4} {f x:d0} {E:Enc Int} {y:Enc Wt} {q:List Wt} {H:ci} {h:St w0 D (Ac a T cs::Ac b U us::AG f W E l::AG x 241 y q::H) w}:blk x≠a\/q=[]:=by
 by_cases hq:q=[]
 .exact .inr hq
 refine .inl ?_;have:=h.hp.nodup;obtain⟨b',o,c,rfl⟩:=L5 (BA<|h.at 3 rfl)<|sM.2 hq;intro e;have d:(AG (.slice (some ⟨b',o,none⟩) q.length c) 241 y q).at w:=h.at 3 rfl
 have z:¬c=0:=by
  have:=(BA d).cap;have j:=sM.2 hq;have k:q.length<=c:=this;omega
 have i:Dv (.slice (some ⟨b',o,none⟩) q.length c)=some b':=by simp[Dv,z]
 have g:b'=a:=e;subst g;simp[Sep.dom,Ac,AG,i] at this
def bC (j:m.q.length<=60000) (b:Nat) (y c:d0) (t:Int):Df prog 250 [pV b,aa t] Tr (LT b y c m) (λz:Int=>aa z) (λz=>gB m.q t z) (λ_=>LT b y c m):=by
 intro w i g;refine enter (n:=11) (vs:=[pV b,aa t]) (St w (dom<|LT b y c m)<|LT b y c<|m) func250 I I I (St.init g) ?_;exact Y I<|Z I<|AT I I I I<|λe=>A I<|Y I<|Mv 2 I<|N ET I Jk I<|Lo Oj 1 I<|Lq I (BU (fn:=.func 0) (us:=#[pV e]) 285 I (vs:=#[]) Vu mg)<|Pre.fact (λ_ h=>Xj0 (h:=h))<|λd=>Z I<|Bp (yu m.q e d t J) I I I call188 I yp<|λz f=>A I<|Al<|Ae<|Av I I<|λ_ h=>⟨z,rfl,f,h⟩
def K1 (hm:m.Ok n) (e:n<=60000) (b:Nat) (x y:d0) (wr:Bool):Df prog 156 [pV b,.bool wr] Tr (LT b x y m) (λ_:Unit=>.bool<|V4 m wr) Tr (λ_=>LT b x y m):=by
 intro w d c;refine enter (n:=22) (vs:=[pV b,.bool wr]) (St w (dom<|LT b x y m)<|LT b x y<|m) func156 I I I (St.init c) ?_;refine Y I<|A I<|Y I<|Mv 2 I<|N ET I Z3 I<|Lo G3 0 I<|Mv 2 I<|CB 10 I (λa=>?_)<|λa=>?_
 .refine Mv 3 I (CB 13 I (λz=>?_)<|λz=>?_)
  .exact Mv 8 I yn
  exact Mv 2 I<|N ET I OQ I<|Lo Pq 0 I<|Lq I (AM I KI I RF)<|Mv 3 I yn
 exact Mv 11 I yn
def fF (hm:m.Ok n) (l:n<=60000) (b:Nat) (y x:d0) (t:Int):Df prog 197 [pV b,aa t] Tr (LT b y x m) (λ_:Unit=>.bool<|Kg m t) Tr (λ_=>LT b y x m):=by
 intro w k a;obtain⟨g,f⟩:=hm.lens;refine enter (n:=30) (vs:=[pV b,aa t]) (St w (dom<|LT b y x m)<|LT b y x<|m) func197 I I I (St.init a) ?_;refine Y I<|A I<|Y I<|Mv 3 I<|CB 7 I (λe=>?_)<|λe=>?_
 .refine Mv 2 I (N ET I Z3 I<|Lo G3 0 I<|Mv 4 I<|CB 15 I (λc=>?_)<|λc=>?_)
  .refine Mv 2 I (N ET I OQ I<|Lo Pq 0 I<|r I<|Z I<|E1 (aX m.rd t J) I call105 RF<|λ_ _=>Lq I (Qt I)<|Mv 2 I<|CB 24 I (λi=>?_)<|λi=>?_)
   .refine Mv 2 I (Z I<|B5 (bC (m:=m) J b y x t) I I I call250 I Tt ?_);intro z j;have d:=j.iff;exact Mv 2 I<|A I<|Al vM
   exact Mv 5 I<|A I<|Al vM
  exact Mv 14 I<|A I<|Al vM
 refine Mv 22 I (A I<|Al ?_);exact vM
def XdJ (hm:m.Ok n) (c:n<=60000) (b:Nat) (x y:d0):Df prog 247 [pV b] Tr (LT b x y m) (λ_:Unit=>aa m.wr) Tr (λ_=>LT b x y m):=by
 intro w a z;refine enter (n:=7) (vs:=[pV b]) (St w (dom<|LT b x y m)<|LT b x y<|m) func247 I I I (St.init z) ?_;exact Y I<|A I<|Y I<|Mv 2 I<|N ET I Z3 I<|Lo G3 0 I xj
def XlH (hm:m.Ok n) (e:n<=60000) (b:Nat) (x y:d0):Df prog 248 [pV b] Tr (LT b x y m) (λv:d0=>v) Tr (λv=>AG v 3 ds m.rd::LT b x y m):=by
 intro w d c;obtain⟨a,z⟩:=hm.lens;refine enter (n:=8) (vs:=[pV b]) (St w (dom<|LT b x y m)<|LT b x y<|m) func248 I I I (St.init c) ?_;exact Y I<|A I<|Y I<|Mv 2 I<|N ET I OQ I<|Lo Pq 0 I<|Z I<|AX (XfB m.rd J) I I I call107 I RF jO
def XlG (hm:m.Ok n) (e:n<=60000) (b:Nat) (x y:d0):Df prog 130 [pV b] Tr (LT b x y m) (λv:d0=>v) Tr (λv=>AG v 241 RU m.q::LT b x y m):=by
 intro w d c;obtain⟨a,z⟩:=hm.lens;refine enter (n:=8) (vs:=[pV b]) (St w (dom<|LT b x y m)<|LT b x y<|m) func130 I I I (St.init c) ?_;exact Y I<|A I<|Y I<|Mv 2 I<|N ET I Jk I<|Lo Oj 0 I<|Z I<|AX (Xe7 m.q J) I I I call189 I ue jO
def XjB (hm:m.Ok n) (a:n<=60000) (b:Nat) (x y:d0):Df prog 98 [pV b] Tr (LT b x y m) (λ_:Unit=>.bool<|idleB m) Tr (λ_=>LT b x y m):=by
 intro w e d;refine enter (n:=20) (vs:=[pV b]) (St w (dom<|LT b x y m)<|LT b x y<|m) func98 I I I (St.init d) ?_;refine Y I<|A I<|Y I<|r I<|Z I<|B5 (K1 hm a b x y true) I I I call156 I Tt<|λ_ _=>r I<|CB 5 I (λc=>?_)<|λc=>?_
 .refine Mv 2 I (N ET I Jk I<|Lo Oj 0 I<|Lq I (AM I Fa I ue)<|Mv 3 I<|CB 13 I (λz=>?_)<|λz=>?_)
  .exact Mv 2 I<|N ET I sizeOf273 I<|Lo isAgg273 0 I<|Mv 2 I yg
  exact Mv 6 I yg
 exact Mv 14 I yg
def zJ:Df prog 102 [] Tr [] (λb:Nat=>pV b) Tr (λb=>LT b (.slice none 0 0) (.slice none 0 0) newL):=by
 intro w y x;refine E0 func102 I x ?_;exact Y I<|A I<|Y I<|Lq I (AS [aa 0,.slice none 0 0,aa (-1),.slice none 0 0] I I uX)<|Z I<|AT I I I I<|λb=>A I<|Al<|row0 3 ds none<|row0 241 RU none<|Pm [2,1] I<|Av I I<|λ_ h=>⟨b,rfl,T0,h⟩
def Mb {E:Enc α} {l:List α} (h:(AG v t E l).at w):v.oneCell'=true:=by
 obtain⟨a,c,rfl⟩:=CQ h;rfl
def XhJ {E:Enc α} {l:List α} (h:(AG v t E l).at w) (s i j:Nat):(Oy v s i j).oneCell'=true:=by
 obtain⟨a,c,rfl⟩:=CQ h;rfl
def kM (f:m.rd.Pairwise (·<·)) (k:m.rd.length<=60000) (b:Nat) (a y:d0) (t:Int) (wr:Bool):Df prog 257 [pV b,aa t,.bool wr] Tr (LT b a y m) (λ_:d0=>.tuple #[]) Tr (λv=>LT b v y<|Oa m t wr):=by
 intro w j e;refine enter (n:=33) (vs:=[pV b,aa t,.bool wr]) (St w (dom<|LT b a y m)<|LT b a y<|m) func257 I I I (St.init e) ?_;refine Ad<|Y I<|r I<|Nk<|Pre.PY 8 I (λd=>?_)<|λd=>?_
 .subst d;exact Am I<|Y I<|Mv 3 I<|N ET I Z3 I<|Z I<|AB I I Z3 I I I (rO I)<|Nk<|Al<|Ag<|Bl I<|λ_ h=>⟨a,rfl,T0,h⟩
 subst d;exact Ab I<|Ah<|Kt<|Y I<|Mv 2 I<|N ET I OQ I<|Lo Pq 0 I<|r I<|Z I<|E1 (XeP m.rd t f J) I call286 RF<|λz c=>r I<|Mv 3 I<|A I<|Cr I<|Mv 3 I<|N ET I OQ I<|Lo Pq 0 I<|Mv 2 I<|Z I<|As (sz:=1) [.tmp 28] I I I I I KI Z3 I zeroValue3 I<|λg=>AQ<|Z I<|Wm (XeZ m.rd z.1 t g c.1 J) I I I call287 I Tt<|λi _=>Ba (l':=ins t m.rd) (XjU c.1 c.2.1 c.2.2).symm<|Lc I<|N ET I OQ I<|Pre.fact (λ_ h=>Mb wG)<|λx=>AD<|Z I<|AB I I OQ I I x (rO I)<|AE<|AW<|Bl I<|λ_ h=>⟨i,rfl,T0,h⟩
def XhK (hm:m.Ok n) (G:n<=60000) (b:Nat) (o l:d0):Df prog 252 [pV b] Tr (LT b o l m) (λv:d0×d0×d0=>v.1) Tr (λv=>AG v.1 3 ds (Uy m).1::LT b v.2.1 v.2.2 (Uy m).2):=by
 intro w J D;refine enter (n:=48) (vs:=[pV b]) (St w (dom<|LT b o l m)<|LT b o l<|m) func252 I I I (St.init D) ?_;refine Y I<|Ak I<|Y I<|Ak I<|Ad<|YA ?_;refine PE (λ(x:La) (c:bf) (v:d0) (z:d0) (a:d0)=>[(0,pV b),(3,v)]) (λ(x:La) (c:bf) (v:d0) (z:d0) (a:d0)=>St w (dom<|LT b o l m)<|AG v 3 ds c::LT b z a x) (λ(x:La) (c:bf) (v:d0) (z:d0) (a:d0)=>x.Ok n/\Uy m=(c++(Uy x).1,(Uy x).2)/\c.length+x.q.length<=n) (λ(x:La) (c:bf) (v:d0) (z:d0) (a:d0)=>x.q.length) m ([]) (.slice none 0 0) o l ⟨hm,rfl,by have:=hm.lens;simp;omega⟩ (Si I) Ih<|λx c v z a C=>Ad<|Ad ?_
 obtain⟨e,d,g⟩:=C;obtain⟨F,E⟩:=e.lens;refine Cr I<|Mv 2 I<|N ET I Jk I<|Lo Oj 1 I<|Lq I (AM I Fa I yp)<|Lq I vd<|Lm I<|CB 11 I (λs=>?_)<|λs=>?_
 .obtain⟨y,q,f⟩:∃y q,x.q=y::q:=by
   cases f:x.q with
   |nil=>rw[f] at s;simp at s
   |cons y q=>exact⟨y,q,rfl⟩
  have A:x.q[0]?=some y:=by rw[f];rfl
  refine Mv 3 I<|N ET I Jk I<|Lo Oj 1 I<|Lq I (Aw 0 I Fa Jj I yp I I)<|N Wy I Z4 I<|Lq I (AO 0 1 I G4 I I yp A I)<|Pm [1,1,1] I<|Z I<|B5 (K1 e G b z a y.2) I I I call156 I Tt<|λ_ _=>Lq I (Qy I)<|Nk<|Pre.PY 21 I (λp=>?_)<|λp=>?_
  .have t:=XjX f p;have r:=XkV e f p;refine Am I<|Ah<|Kt<|Af<|Y I<|Mv 2 I<|N ET I Jk I<|Lo Oj 0 I<|Lq I (Aw 0 I Fa Jj I ue I I)<|Lq I (Bc 0 I isAgg241 Jj I I ue A)<|Z I<|Ax I I I zeroValue241<|λK=>Z I<|SA Jj I (RU.one y)<|Ce [aa y.1,.bool y.2] I<|Nk<|Y I<|Mv 3 I<|N ET I Jk I<|Lo Oj 1 I<|Lq I (DC 1 I Fa Jj I yp I I A1)<|Lc I<|N ET I Jk I ?_
   have i:x.q.drop 1=q:=by rw[f];rfl
   refine Pre.fact (λ_ h=>XhJ Z7 RU.sz 1 x.q.length)<|λk=>AD<|Z I<|AB I I Jk I I k (rO I)<|Nk<|Y I<|Lm I<|N Wy I Z3 I<|Lo G3 1 I<|N Wy I Z4 I<|Lo G4 1 I<|BP<|Xhc 1 A1 ?_
   rw[i];refine Pm [1,2] I<|Z I<|B5 (kM (m:={x with q:=q}) e.Ya (show x.rd.length<=60000 by omega) b z _ y.1 y.2) I I I call257 I Tt<|λu _=>Nk<|Cr I<|Lm I<|N Wy I Z3 I<|Lo G3 3 I<|Z I<|As (sz:=1) [.tmp 44] I I I I I KI Z3 I zeroValue3 I<|λH=>B7<|Z I<|Ap KI KI CD I (λ_ h=>AR kj ds [y.1] I I) A8<|λB=>Nh I<|AE<|Au<|AD<|Ae<|Cd<|Ae ?_
   exact AJ ((Oa {x with q:=q} y.1 y.2,c++[y.1],B,u,Oy a RU.sz 1 x.q.length)) (by dsimp only;rw[kL,f];simp) ⟨r,by rw[d,t];simp,by rw[kL];rw[f] at g;simp at g ⊢;omega⟩ (Si I) Jx
  have j:=Sy (m:=x) (.inr ⟨y,q,f,p⟩);exact Ab I<|AP<|Aa<|Aa<|Ar<|Kt<|Y I<|Lm I<|Ak I<|Al<|Pm [3] I ZEf
 have j:=Sy (m:=x) (.inl<|pR A1);exact Mv 10 I<|Nk<|Ab I<|AP<|Aa<|Aa<|Ar<|Kt<|Y I<|Lm I<|Ak I<|Al ZEf
def XhL (hm:m.Ok n) (z:n<=60000) (b:Nat) (x y:d0) (t:Int) (wr:Bool):Df prog 198 [pV b,aa t,.bool wr] Tr (LT b x y m) (λ_:d0=>.bool<|VQ m t wr) Tr (λv=>LT b v y<|Qp m t wr):=by
 intro w k a;obtain⟨g,f⟩:=hm.lens;refine enter (n:=29) (vs:=[pV b,aa t,.bool wr]) (St w (dom<|LT b x y m)<|LT b x y<|m) func198 I I I (St.init a) ?_;refine Y I<|A I<|Ad<|Y I<|Mv 2 I<|Z I<|B5 (fF hm z b x y t) I I I call197 I Tt<|λ_ _=>Lq I (Qt I)<|r I<|CB 11 I (λd=>?_)<|λd=>?_
 .refine Mv 13 I (Nk<|jS ?_);exact uL
 refine Mv 2 I (N ET I Jk I<|Lo Oj 0 I<|Lq I (AM I Fa I ue)<|Lq I vd<|Mv 2 I<|CB 19 I (λc=>?_)<|λc=>?_)
 .refine Mv 5 I (Nk<|jS ?_);exact uL
 refine Mv 2 I (Z I<|B5 (K1 hm z b x y wr) I I I call156 I Tt<|λ_ _=>Lq I (Qt I)<|Lq I (Qz I)<|Nk<|CB 24 I (λi=>?_)<|λi=>?_)
 .refine jS ?_;exact uL
 refine Ab I (Ah<|Kt<|Y I<|Mv 3 I ?_);have e:VQ m t wr=true:=by first|(simp_all [VQ];done)|(unfold VQ;rw[show decide (m.q.length=0)=true from sT J];simp_all)
 exact Z I<|B5 (kM hm.Ya J b x y t wr) I I I call257 I Tt<|λj _=>Nk<|Y I<|A I<|Al<|Av I I<|λ_ h=>⟨j,congrArg Eb e.symm,T0,by unfold Qp;rw[e];exact h⟩
def XlK (hm:m.Ok n) (f:n<=60000) (b:Nat) (y x:d0) (t:Int) (wr:Bool):Df prog 135 [pV b,aa t,.bool wr] Tr (LT b y x m) (λ_:d0×d0=>.bool<|VQ m t wr) Tr (λv=>LT b v.1 v.2<|UL m t wr):=by
 intro w q i;obtain⟨k,j⟩:=hm.lens;refine enter (n:=31) (vs:=[pV b,aa t,.bool wr]) (St w (dom<|LT b y x m)<|LT b y x<|m) func135 I I I (St.init i) ?_;refine Y I<|A I<|Ad<|Y I<|Mv 2 I<|Z I<|B5 (fF hm f b y x t) I I I call197 I Tt<|λ_ _=>Lq I (Qt I)<|Nk<|CB 11 I (λa=>?_)<|λa=>?_
 .have o:VQ m t wr=false:=by unfold VQ;rw[a];rfl
  have c:UL m t wr=m:=by unfold UL;rw[a];rfl
  exact Am I<|Y I<|A I<|Al<|Ag<|Av I I<|λ_ h=>⟨(y,x),congrArg Eb<|o.symm,T0,by rw[c];exact h⟩
 refine Ab I (Ah<|Kt<|Y I<|Mv 3 I<|Z I<|B5 (XhL hm f b y x t wr) I I I call198 I Tt<|λe _=>A I<|Ad<|Y I<|Mv 2 I<|Nk<|CB 17 I (λd=>?_)<|λd=>?_)
 .have c:UL m t wr=KZ m t wr:=by unfold UL;rw[a,d];rfl
  have l:Qp m t wr=m:=by unfold Qp;rw[d];rfl
  rw[l];exact Am I<|Cr I<|Mv 3 I<|N ET I Jk I<|Lo Oj 0 I<|Mv 2 I<|Lq I (AS ([aa t,.bool wr]) I I uX)<|Z I<|As (sz:=2) [.tmp 25] I I I I I Fa Jj I zeroValue241 I<|λp=>BP<|Z I<|Ap Fa Fa PO I (λ_ h=>AR kj RU [(t,wr)] I I) A8<|λg=>Lc I<|N ET I Jk I<|Pre.fact (λ_ h=>Mb wG)<|λz=>AQ<|Z I<|AB I I Jk I I z (rO I)<|Nk<|Y I<|r I<|A I<|Al<|AQ<|Ae<|Pm [0,1] I<|Av I I<|λ_ h=>⟨(e,g),congrArg Eb<|I,T0,by rw[c];exact h⟩
 have c:UL m t wr=Qp m t wr:=by unfold UL Qp;rw[a,d];rfl
 exact Ab I<|Ah<|Kt<|Y I<|r I<|A I<|Al<|Av I I<|λ_ h=>⟨(e,x),congrArg Eb<|I,T0,by rw[c];exact h⟩
def XiL (hm:m.Ok n) (J:n<=60000) (b:Nat) (p o:d0) (t:Int):Df prog 176 [pV b,aa t] Tr (LT b p o m) (λv:d0×d0×d0=>v.1) Tr (λv=>AG v.1 3 ds (TT m t).1::LT b v.2.1 v.2.2 (TT m t).2):=by
 intro w L D;obtain⟨G,F⟩:=hm.lens;refine enter (n:=55) (vs:=[pV b,aa t]) (St w (dom<|LT b p o m)<|LT b p o<|m) func176 I I I (St.init D) ?_;refine Y I<|Ak I<|Ad<|Y I<|Mv 2 I<|Nk<|CB 8 I (λB=>?_)<|λB=>?_
 .have hd:TT m t=([],m):=by unfold TT;rw[pN B]
  exact Am I<|Y I<|Ak I<|Al<|Ag<|row0 3 ds none<|Av I I<|λ_ h=>⟨(.slice none 0 0,p,o),rfl,T0,by rw[hd];exact h⟩
 have hd:TT m t=Uy (UH m t):=by unfold TT;rw[pQ B]
 refine Ab I<|Ah<|Ks<|Y I<|Mv 2 I<|N ET I Z3 I<|Lo G3 0 I<|Mv 2 I<|Nk ?_;refine Ew (λ(l:d0) (d:d0)=>[(0,pV b),(1,aa t)]) (λ(l:d0) (d:d0)=>St w (dom<|LT b p o m)<|LT b l d<|{m with wr:=if m.wr=t then -1 else m.wr}) (λ(l:d0) (d:d0)=>True) ?_ ?_
 .refine CB 14 I (λC=>?_) (λC=>?_)
  .refine Am I (Cr I<|Mv 2 I<|N ET I Z3 I<|Z I<|AB I I Z3 I I I (rO I)<|AE ?_);exact Bf ((p,o)) trivial (Si I) (λ_ h=>by rw[pN C];exact h)
  refine Ab I (Ah ?_);exact Bf ((p,o)) trivial (Si I) (λ_ h=>by rw[pQ C];exact h)
 intro l d _;refine Ad<|Y I<|Mv 2 I<|N ET I OQ I<|Lo Pq 0 I<|Lm I<|Z I<|E1 (index_spec m.rd t A1) I call157 RF<|λz e=>Ak I<|Y I<|Mv 2 I<|Nk ?_
 refine Ew (λ(a:d0) (c:d0)=>[(0,pV b),(1,aa t)]) (λ(a:d0) (c:d0)=>St w (dom<|LT b p o m)<|LT b a c<|{m with wr:=if m.wr=t then -1 else m.wr,rd:=m.rd.filter<|λx=>decide (x≠t)}) (λ(a:d0) (c:d0)=>True) ?_ ?_
 .refine CB 25 I (λE=>?_) (λE=>?_)
  .obtain⟨k,rfl,u⟩:∃k:Nat,z=(k:Int)/\m.rd[k]?=some t:=by
    exact ZFY
   have s:=(qp.1 u).1;refine Am I<|Cr I<|Mv 3 I<|N ET I OQ I<|Lo Pq 0 I<|Mv 2 I<|Lq I py<|AD<|Z I<|Bp (Xe0 m.rd k s A1) I I I call249 I Tt<|λA _=>Ba (l':=m.rd.filter<|λx=>decide (x≠t)) (kK (f:=λx=>x) (by simpa using hm.rn) u I).symm<|Lc I<|N ET I OQ I<|Pre.fact (λ_ h=>Mb wG)<|λg=>AD<|Z I<|AB I I OQ I I g (rO I)<|AE ?_
   exact Bf ((A,d)) trivial (Si I) Jx
  have r:m.rd.filter (λx=>decide (x≠t))=m.rd:=O3 (f:=λx=>x) (by
   rcases e with⟨_,e⟩|⟨k,rfl,_⟩
   .simpa using e
   omega)
  refine Ab I<|Ah ?_;exact Bf ((l,d)) trivial (Si I) (λ_ h=>by rw[r];exact h)
 intro a c _;refine Ad<|Y I<|Mv 2 I<|Z I<|B5 (bC (m:={m with wr:=if m.wr=t then -1 else m.wr,rd:=m.rd.filter<|λx=>decide (x≠t)}) (show m.q.length<=60000 by omega) b a c t) I I I call250 I Tt<|λz e=>Ak I<|Y I<|Mv 2 I<|Nk ?_
 refine Ew (λ(i:d0) (j:d0)=>[(0,pV b),(1,aa t)]) (λ(i:d0) (j:d0)=>St w (dom<|LT b p o m)<|LT b i j<|UH m t) (λ(i:d0) (j:d0)=>True) ?_ ?_
 .refine CB 41 I (λH=>?_) (λH=>?_)
  .obtain⟨k,y,rfl,u,K⟩:∃(k:Nat) (y:Wt),z=(k:Int)/\m.q[k]?=some y/\y.1=t:=by
    exact ZFY
   have s:=(qp.1 u).1;refine Am I<|Cr I<|Mv 3 I<|N ET I Jk I<|Lo Oj 0 I<|Mv 2 I<|Lq I py<|AQ<|Z I<|Bp (yS m.q k s A1) I I I call251 I Tt<|λA _=>Ba (l':=(UH m t).q) (kK hm.qn u K).symm<|Lc I<|N ET I Jk I<|Pre.fact (λ_ h=>Mb wG)<|λg=>AD<|Z I<|AB I I Jk I I g (rO I)<|AE<|Pm [0,1] I ?_
   exact Bf ((a,A)) trivial (Si I) Jx
  have r:(UH m t).q=m.q:=O3 (by
   rcases e with⟨_,e⟩|⟨k,_,rfl,_⟩
   .exact e
   omega)
  refine Ab I<|Ah ?_;exact Bf ((a,c)) trivial (Si I) (λ_ h=>by unfold LT;rw[r];exact h)
 intro i j _;exact Y I<|Lm I<|Z I<|OF (XhK (YZ hm A1) J b i j) I I I call252 I Tt<|λv _=>Ak I<|Al<|Av I I<|λ_ h=>⟨v,rfl,T0,by rw[hd];exact h⟩
end Go.Proofs.YtloldofjddbjoaaGreat.Lt
namespace Go.Proofs.YtloldofjddbjoaaGreat
open Go.Sep Go.RowKit Tryz
variable {B i C k n:Nat} {P:d8} {f:FuncId} {vs:bi} {E E':aU} {β γ α:Type} {w:d7} {s:OH} {M:Mo} {b:Int} {S:CS} {G:ci}
def Df.pack {H h:ci} (F:ci) {β γ:Type} {v:β->d0} {p:β->Prop} {HB:β->ci} {x:γ->d0} {y:γ->Prop} {HB':γ->ci} (s:Df P f vs E H v p HB) (c:h.Perm<|H++F) (j:∀w,E' w->HP h w->E w) (g:β->γ)
 (l:∀b,p b->v b=x (g b)/\y (g b)/\∃K,(HB b++F).Perm<|HB' (g b)++K):Df P f vs E' h x y HB':=λw k z =>
 (s.frame (F:=F) ((St.init z).perm c)<|j w k z).mono (λe w' ⟨b,h1,h2,h3⟩=>by
  obtain⟨d,i,K,a⟩:=l b h2
  exact⟨g b,by rw[h1,d],i,(h3.perm a).cut⟩)
def SD (l:ci):l.Perm (l++[]):=by rw[sG]
def ZQ (A B S G:ci):(A++B++S++G).Perm (B++(S++(A++G))):=by
 simp only[qQ];exact (tS A B<|S++G).trans<|(tS A S G).append_left B
structure Q where
 S:CS
 M:Mo
 G:ci
namespace Q
def H (bc:Nat) (q:Q):ci:=q.S.H bc++q.G
structure Ok (q:Q) (B:Nat):Prop where
 rel:Rel q.S q.M
 ok:q.M.Ok B
 nin:Qj q.G q.S.fl
end Q
def Q.Ok.mono {q:Q} (h:q.Ok B) (x:B<=C) (y:C<=60000):q.Ok C:=⟨h.rel,h.ok.mono x y,h.nin⟩
def XkW {x:Nat} {H:ci} (h:HP H w) (y:∀e∈S.H x,e∈H):CR w x S:=CR.WT (St.init h) y
def XkX {H:ci} (y:Qj G S.fl) (h:HP H w) (z:∀e∈G,e∈H):NR w S:=λf x=>(y f x).rd h z
def Qj.more {x:ci} {fl:cO} (h:Qj G fl) (z:∀e∈G,e∈x):Qj x fl:=λf y=>(h f y).more z
structure LC where
 b:Nat
 vR:d0
 vQ:d0
 m:Lt.La
abbrev LC.H (l:LC):ci:=Lt.LT l.b l.vR l.vQ l.m
def Rq (l:List LC):ci:=l.flatMap LC.H
def Kh (a:LC) (l:List LC):Rq (a::l)=a.H++Rq l:=rfl
def Xcp:∀{l:List LC} {i:Nat} {a:LC},l[i]?=some a->(Rq l).Perm (a.H++Rq (l.eraseIdx i))
 |[],i,a,h=>yF
 |x::l,0,a,h=>nS
 |x::l,i+1,a,h=>by
  have y:=Xcp (l:=l) (i:=i) (a:=a) sv
  rw[ta,Kh,Kh]
  exact (y.append_left x.H).trans<|tS _ _ _
def iA:∀{l:List LC} {i:Nat} (a:LC),i<l.length->(a.H++Rq (l.eraseIdx i)).Perm (Rq<|l.set i a)
 |[],i,a,h=>yF
 |x::l,0,a,h=>sU _
 |x::l,i+1,a,h=>by
  have y:=iA (l:=l) (i:=i) a sv
  rw[ta,sC,Kh,Kh]
  exact (tS _ _ _).trans<|y.append_left x.H
def LK:Enc Nat:=⟨1,λb=>[pV b],λ_=>rfl,λa u h=>by simp at h;subst h;rfl,by decide⟩
structure HQ where
 bh:Nat
 bc:Nat
 bs:Nat
 bR:Nat
 vL:d0
 vB:d0
 vU:d0
 rd:List (Int×Int)
 s:OH
 lt:List LC
 q:Q
abbrev BM (b:Nat):d0:=pV b
abbrev HQ.cells (x:HQ):bi:=[BM x.bc,BM x.bs,x.vL,.map<|some x.bR]
abbrev HQ.H (x:HQ):ci:=Ac x.bh 91 x.cells::AG x.vL 203 LK (x.lt.map LC.b)::D1 x.bR kI kI x.rd::Ac x.bs 161 [x.vB,x.vU]::AG x.vB 279 Bk.enc x.s.bl::AG x.vU 4 D5 x.s.us::(Rq x.lt++x.q.H x.bc)
abbrev HQ.rest (x:HQ):ci:=Ac x.bh 91 x.cells::AG x.vL 203 LK (x.lt.map LC.b)::D1 x.bR kI kI x.rd::Ac x.bs 161 [x.vB,x.vU]::AG x.vB 279 Bk.enc x.s.bl::AG x.vU 4 D5 x.s.us::Rq x.lt
structure HQ.Ok (x:HQ) (B:Nat):Prop where
 q:x.q.Ok B
 s:x.s.Ok
 l:∀l∈x.lt,l.m.Ok B
 ll:x.lt.length=x.q.M.fr.length
 rn:(x.rd.map Prod.fst).Nodup
def HQ.lN (x:HQ):x.H.Perm (x.q.H x.bc++x.rest):=(show x.H=x.rest++x.q.H x.bc from rfl)▸sV
def HQ.Xei (x:HQ) (q:Q):(q.H x.bc++x.rest).Perm ({x with q:=q}:HQ).H:=sV
def HQ.Ok.b9 {x:HQ} (h:x.Ok B):B<=60000:=h.q.ok.B9
def HQ.Ok.mono {x:HQ} (h:x.Ok B) (y:B<=C) (z:C<=60000):x.Ok C:=⟨h.q.mono y z,h.s,λl a=>(h.l l a).mono y,h.ll,h.rn⟩
def O4 {x:HQ} (h:HP x.H w):CR w x.bc x.q.S:=XkW h<|λe y=>by
 show e∈x.rest++(x.q.S.H x.bc++x.q.G)
 exact sw _<|qh _ y
def iB {x:HQ} (h:x.Ok B) (z:HP x.H w):NR w x.q.S:=XkX h.q.nin z<|λe y=>by
 show e∈x.rest++(x.q.S.H x.bc++x.q.G)
 exact sw _<|sw _ y
def HQ.lift {x:HQ} {v:β->d0} {p:β->Prop} {A:ci} {HB:β->ci} {y:γ->d0} {z:γ->Prop} {A':γ->ci} (s:Df P f vs E (A++x.q.S.H x.bc) v p HB) (d:∀w,E' w->HP (A++x.H) w->E w) (g:β->γ) (qn:γ->Q)
 (j:∀b,p b->v b=y (g b)/\z (g b)/\(HB b++x.q.G).Perm (A' (g b)++(qn<|g b).H x.bc)):Df P f vs E' (A++x.H) y z (λc=>A' c++({x with q:=qn c}:HQ).H) :=
 Df.pack (x.q.G++x.rest) s (by
  have h:(A++x.H).Perm (A++((x.q.S.H x.bc++x.q.G)++x.rest)):=(x.lN).append_left A
  simpa only[qQ] using h) d g (λb i=>by
  obtain⟨h,a,e⟩:=j b i
  refine⟨h,a,[],?_⟩
  rw[sG,<-qQ]
  refine (e.append_right x.rest).trans ?_
  rw[qQ]
  exact (x.Xei<|qn<|g b).append_left _)
def HQ.look {x:HQ} {v:β->d0} {p:β->Prop} {HB:β->ci} (s:Df P f vs E [] v p HB) (y:∀w,HP x.H w->E w):Df P f vs Tr x.H v p (λc=>HB c++x.H) :=
 Df.pack x.H s (sU _) (λw _ h=>y w h) id<|λb z=>⟨rfl,z,[],SD _⟩
def GD (M:Mo) (i:Nat) (y:Vw):(M.put i y).fr.length=M.fr.length:=sI
def XiP (M:Mo) (t b:Int):(M.pin t b).2.fr.length=M.fr.length:=by
 unfold Mo.pin;split
 .rfl
 split
 .dsimp only;split
  .exact GD ..
  exact GD ..
 split
 .rfl
 exact GD ..
def XgV (M:Mo) (t:Int):(M.claim t).2.fr.length=M.fr.length:=by
 unfold Mo.claim;split
 .rfl
 split
 .rfl
 exact GD ..
def ZS (M:Mo) (b:Int) (nd:Nd):(M.fill b nd).2.fr.length=M.fr.length:=by
 unfold Mo.fill;split
 .exact GD ..
 rfl
def XhM (M:Mo) (t:Int):(M.give t).fr.length=M.fr.length:=qY ..
def XhN (M:Mo) (t b:Int) (nd:Nd):(M.name t b nd).2.fr.length=M.fr.length:=by
 unfold Mo.name;split
 .exact GD ..
 rfl
def Xs (M:Mo) (b:Int):(M.Uf b).2.fr.length=M.fr.length:=by
 unfold Mo.Uf;split
 .split
  .rfl
  exact GD ..
 rfl
def eQ (M:Mo) (b:Int) (nd:Nd):(M.N7 b nd).2.fr.length=M.fr.length:=by
 unfold Mo.N7;split
 .exact GD ..
 rfl
abbrev HQ.OY (x:HQ) (q:Q):HQ:={x with q:=q}
def HQ.Ok.OY {x:HQ} {q:Q} (h:x.Ok B) (z:q.Ok C) (y:B<=C) (a:q.M.fr.length=x.q.M.fr.length):(x.OY q).Ok C:=⟨z,h.s,λl hm=>(h.l l hm).mono y,by show x.lt.length=q.M.fr.length;rw[a];exact h.ll,h.rn⟩
def HQ.kT {x:HQ} {v:β->d0} {p:β->Prop} {HB:β->ci} {h:γ->d0} {y:γ->Prop} {A':γ->ci} (s:Df P f vs E (x.q.S.H x.bc) v p HB) (z:∀w,E' w->HP x.H w->E w) (g:β->γ) (qn:γ->Q)
 (a:∀b,p b->v b=h (g b)/\y (g b)/\(HB b++x.q.G).Perm (A' (g b)++(qn<|g b).H x.bc)):Df P f vs E' x.H h y (λc=>A' c++(x.OY<|qn c).H) :=
 HQ.lift (A:=[]) s z g qn a
def n9 {x:HQ} (h:x.Ok B) (z:B+1<=60000) (t b:Int) (y:i64 b):Df prog 174 [BM x.bc,aa t,aa b] Tr x.H (λ_:Q=>aa (x.q.M.pin t b).1) (λq=>q.M=(x.q.M.pin t b).2/\(x.OY q).Ok (B+1)) (λq=>(x.OY q).H) :=
 HQ.kT (A':=λ_=>[]) (XhT h.q.rel h.q.ok z t b y) oY (λa=>(⟨a,(x.q.M.pin t b).2,x.q.G⟩:Q)) id<|λa c=>⟨rfl,⟨rfl,h.OY ⟨c.1,XjL h.q.ok t b z,c.2 _ h.q.nin⟩ (tC B)<|XiP _ _ _⟩,sU _⟩
def j6 {x:HQ} (h:x.Ok B) (a:B+1<=60000) (t:Int):Df prog 207 [BM x.bc,aa t] Tr x.H (λ_:Q=>.bool (x.q.M.claim t).1) (λq=>q.M=(x.q.M.claim t).2/\(x.OY q).Ok (B+1)) (λq=>(x.OY q).H) :=
 HQ.kT (A':=λ_=>[]) (Xfg h.q.rel h.q.ok t) oY (λy=>(⟨y,(x.q.M.claim t).2,x.q.G⟩:Q)) id<|λy z=>⟨rfl,⟨rfl,h.OY ⟨z.1,XhD h.q.ok t a,z.2 _ h.q.nin⟩ (tC B)<|XgV _ _⟩,sU _⟩
def j7 {x:HQ} (h:x.Ok B) (b:Int):Df prog 177 [BM x.bc,aa b] Tr x.H (λ_:Q=>.bool (x.q.M.Uf b).1) (λq=>q.M=(x.q.M.Uf b).2/\(x.OY q).Ok B) (λq=>(x.OY q).H) :=
 HQ.kT (A':=λ_=>[]) (Xff h.q.rel h.q.ok b) oY (λy=>(⟨y,(x.q.M.Uf b).2,x.q.G⟩:Q)) id<|λy z=>⟨rfl,⟨rfl,h.OY ⟨z.1,XhE h.q.ok b,z.2 _ h.q.nin⟩ (qb B)<|Xs _ _⟩,sU _⟩
def mH {x:HQ} (h:x.Ok B) (t:Int):Df prog 263 [BM x.bc,aa t] Tr x.H (λ_:Q=>aa (x.q.M.claims t:Int)) (λq=>q.M=(x.q.M.give t)/\(x.OY q).Ok B) (λq=>(x.OY q).H) :=
 HQ.kT (A':=λ_=>[]) (kM h.q.rel h.q.ok t) oY (λy=>(⟨y,(x.q.M.give t),x.q.G⟩:Q)) id<|λy z=>⟨rfl,⟨rfl,h.OY ⟨z.1,yc h.q.ok t,z.2 _ h.q.nin⟩ (qb B)<|XhM _ _⟩,sU _⟩
def zL {nv:NV} (x:(Ct nv.s.e nv.d.es).at w) (z:(CT nv.s.k nv.d.kids).at w) (h:(CU nv.s.p nv.d.piv).at w) (y:(C5 nv.s.m nv.d.msgs).at w):OE w nv:=⟨BA x,BA z,BA h,BA y⟩
def XcP {x:HQ} (h:x.Ok B) (nv:NV) (i:nv.d.Sm 1000) (b:Int) {f z a y:Nr} (k:∀w,f.at w->z.at w->a.at w->y.at w->OE w nv):Df prog 261 [BM x.bc,aa b,.agg nv.c.toArray] Tr ([f,z,a,y]++x.H) (λ_:Q=>.bool (x.q.M.N7 b nv.d).1) (λq=>q.M=(x.q.M.N7 b nv.d).2/\(x.OY q).Ok B) (λq=>[f,z,a,y]++(x.OY q).H) :=
 HQ.lift (A':=λ_=>[f,z,a,y]) (XhQ h.q.rel h.q.ok b nv (i.mono K) k) oY (λr=>(⟨r.1,(x.q.M.N7 b nv.d).2,Bo r.2++x.q.G⟩:Q)) id<|λr j=>⟨rfl,⟨rfl,h.OY ⟨j.1,XjM h.q.ok b nv.d i,j.2 _ (λe g=>qh _ g)<|h.q.nin.more<|λe g=>sw _ g⟩ (qb B)<|eQ _ _ _⟩,ZQ _ _ _ _⟩
def Nn {x:HQ} (h:x.Ok B) (nv:NV) (y:nv.d.Sm 1000) (b:Int):Df prog 261 [BM x.bc,aa b,.agg nv.c.toArray] Tr (Bo nv++x.H) (λ_:Q=>.bool (x.q.M.N7 b nv.d).1) (λq=>q.M=(x.q.M.N7 b nv.d).2/\(x.OY q).Ok B) (λq=>Bo nv++(x.OY q).H):=XcP h nv y b<|λ_=>zL
def Xcq {x:HQ} (h:x.Ok B) (nv:NV) (i:nv.d.Sm 1000) (t b:Int) {f z a y:Nr} (k:∀w,f.at w->z.at w->a.at w->y.at w->OE w nv):Df prog 268 [BM x.bc,aa t,aa b,.agg nv.c.toArray] Tr ([f,z,a,y]++x.H) (λ_:Q=>.bool (x.q.M.name t b nv.d).1) (λq=>q.M=(x.q.M.name t b nv.d).2/\(x.OY q).Ok B) (λq=>[f,z,a,y]++(x.OY q).H) :=
 HQ.lift (A':=λ_=>[f,z,a,y]) (W6 h.q.rel h.q.ok t b nv (i.mono K) k) oY (λr=>(⟨r.1,(x.q.M.name t b nv.d).2,Bo r.2++x.q.G⟩:Q)) id<|λr j=>⟨rfl,⟨rfl,h.OY ⟨j.1,eD h.q.ok t b nv.d i,j.2 _ (λe g=>qh _ g)<|h.q.nin.more<|λe g=>sw _ g⟩ (qb B)<|XhN _ _ _ _⟩,ZQ _ _ _ _⟩
def VD {x:HQ} (h:x.Ok B) (nv:NV) (y:nv.d.Sm 1000) (t b:Int):Df prog 268 [BM x.bc,aa t,aa b,.agg nv.c.toArray] Tr (Bo nv++x.H) (λ_:Q=>.bool (x.q.M.name t b nv.d).1) (λq=>q.M=(x.q.M.name t b nv.d).2/\(x.OY q).Ok B) (λq=>Bo nv++(x.OY q).H):=Xcq h nv y t b<|λ_=>zL
def mI {x:HQ} (h:x.Ok B) (nv:NV) (z:nv.d.Sm 1000) (b:Int):Df prog 133 [BM x.bc,aa b,.agg nv.c.toArray] Tr (Bo nv++x.H) (λr:Q×d0=>.tuple #[r.2,.bool (x.q.M.fill b nv.d).1.2]) (λr=>r.1.M=(x.q.M.fill b nv.d).2/\(x.OY r.1).Ok B) (λr=>(AG r.2 3 ds (x.q.M.fill b nv.d).1.1::Bo nv)++(x.OY r.1).H) :=
 HQ.lift (A':=λr:Q×d0=>AG r.2 3 ds (x.q.M.fill b nv.d).1.1::Bo nv) (Xf2 h.q.rel h.q.ok b nv<|z.mono K) oY (λr=>((⟨r.1,(x.q.M.fill b nv.d).2,Bo r.2.1++x.q.G⟩:Q),r.2.2)) Prod.fst<|λr a=>⟨rfl,⟨rfl,h.OY ⟨a.1,eB h.q.ok b nv.d z,a.2 _ (λe y=>qh _ y)<|h.q.nin.more<|λe y=>sw _ y⟩ (qb B)<|ZS _ _ _⟩,(ZQ _ _ _ _).cons _⟩
def XkY {x:HQ} (h:x.Ok B) (t:Int):Df prog 132 [BM x.bc,aa t] Tr x.H (λ_:Unit=>.bool<|x.q.M.may t) Tr (λ_:Unit=>[]++x.H) :=
 HQ.look (Xfd h.q.rel h.q.ok t)<|λw y=>O4 y
def j8 {x:HQ} (h:x.Ok B):Df prog 193 [BM x.bc] Tr x.H (λ_:Unit=>aa (x.q.M.free:Int)) Tr (λ_:Unit=>[]++x.H) :=
 HQ.look (MT h.q.rel h.q.ok)<|λw y=>O4 y
def XcQ {x:HQ} (h:x.Ok B):Df prog 99 [BM x.bc] Tr x.H (λv:d0=>v) Tr (λv:d0=>[AG v 3 ds<|x.q.M.line.map Prod.fst]++x.H) :=
 HQ.look (XfW h.q.rel h.q.ok)<|λw y=>O4 y
def LL {x:HQ} (h:x.Ok B) (b:Int):Df prog 116 [BM x.bc,aa b] Tr x.H (λs:N4=>.tuple #[.agg (⟨s,(x.q.M.node b).1⟩:NV).c.toArray,.bool (x.q.M.node b).2]) Tr (λs:N4=>Bo ⟨s,(x.q.M.node b).1⟩++x.H) :=
 HQ.look (XfZ h.q.rel h.q.ok b)<|λw y=>⟨O4 y,iB h y⟩
def j9 {x:HQ} (h:x.Ok B) (b:Int):Df prog 194 [BM x.bc,aa b] Tr x.H (λ_:Unit=>aa<|io<|x.q.M.find b) Tr (λ_:Unit=>[]++x.H) :=
 HQ.look (Fc h.q.rel h.q.ok b)<|λw y=>O4 y
def XbA {x:HQ} (h:x.Ok B) (t:Int):Df prog 262 [BM x.bc,aa t] Tr x.H (λ_:Unit=>aa (x.q.M.claims t:Int)) Tr (λ_=>x.H) :=
 Df.pack (x.q.G++x.rest) (XeV h.q.rel h.q.ok t) ZEh oY id ZBk
def Qr {x:HQ} (h:x.Ok B) (b:Int):Df prog 196 [BM x.bc,aa b] Tr x.H (λ_:Unit=>.bool (x.q.M.Me b 2).isSome) Tr (λ_=>x.H) :=
 Df.pack (x.q.G++x.rest) (Xfh h.q.rel h.q.ok b) ZEh oY id ZBk
def eR {x:HQ} (h:x.Ok B):Df prog 97 [BM x.bc] Tr x.H (λb:d0×cO×ci=>b.1) (λb=>b.2.1.map vw=x.q.M.fr/\∀f∈b.2.1,∀e∈Bo f.nv,e∈b.2.2) (λb=>(AG b.1 202 FC.ZC b.2.1::b.2.2)++x.H) :=
 HQ.look (RM h.q.rel h.q.ok)<|λw y=>⟨O4 y,iB h y⟩
abbrev HQ.RI (x:HQ) (s:OH):HQ:={x with s:=s}
abbrev HQ.V9 (x:HQ) (i:Nat) (l:LC):HQ:={x with lt:=x.lt.set i l}
abbrev HQ.l7 (x:HQ):ci:=[Ac x.bh 91 x.cells,AG x.vL 203 LK<|x.lt.map LC.b,D1 x.bR kI kI x.rd]
abbrev HQ.pre6 (x:HQ):ci:=x.l7++SE x.bs x.vB x.vU x.s
def Qs (A B C D:ci):((A++B)++(C++D)).Perm (A++(C++(B++D))):=by
 rw[qQ];exact (tS B C D).append_left A
def HQ.fC {x:HQ} {v:β->d0} {p:β->Prop} (A:ci) {A':β->ci} {sn:β->OH} (s:Df P f vs E (A++SE x.bs x.vB x.vU x.s) v p<|λb=>A' b++SE x.bs x.vB x.vU (sn b)) (h:∀w,E' w->HP (A++x.H) w->E w):Df P f vs E' (A++x.H) v p (λb=>A' b++(x.RI<|sn b).H) :=
 Df.pack (x.l7++(Rq x.lt++x.q.H x.bc)) s (Qs A (SE x.bs x.vB x.vU x.s) x.l7<|Rq x.lt++x.q.H x.bc).symm h id<|λb y=>⟨rfl,y,[],by
  rw[sG];exact Qs (A' b) (SE x.bs x.vB x.vU<|sn b) x.l7<|Rq x.lt++x.q.H x.bc⟩
def oa {lt:List LC} {l l':LC} (h:lt[i]?=some l) (x:l'.b=l.b):(lt.set i l').map LC.b=lt.map LC.b:=by
 exact vY
def HQ.zC {x:HQ} {l:LC} {v:β->d0} {p:β->Prop} {A':β->ci} {ln:β->LC} (y:x.lt[i]?=some l) (s:Df P f vs E l.H v p<|λb=>A' b++(ln b).H) (a:∀w,E' w->HP x.H w->E w) (d:∀b,(ln b).b=l.b):Df P f vs E' x.H v p (λb=>A' b++(x.V9 i<|ln b).H) :=
 Df.pack (x.pre6++(Rq (x.lt.eraseIdx i)++x.q.H x.bc)) s (by
  have c:x.H.Perm (x.pre6++((l.H++Rq (x.lt.eraseIdx i))++x.q.H x.bc)):=by
   show (x.pre6++(Rq x.lt++x.q.H x.bc)).Perm _
   exact ((Xcp y).append_right<|x.q.H x.bc).append_left x.pre6
  refine c.trans ?_;have h:=tS x.pre6 l.H<|Rq (x.lt.eraseIdx i)++x.q.H x.bc;rw[<-qQ l.H] at h;exact h) a id<|λb e=>⟨rfl,e,[],by
  rw[sG];have z:=(qp.1 y).1
  have h:(x.V9 i<|ln b).H=x.pre6++(Rq (x.lt.set i<|ln b)++x.q.H x.bc):=by
   show Ac x.bh 91 x.cells::AG x.vL 203 LK ((x.lt.set i<|ln b).map LC.b)::_=_
   rw[oa y<|d b];rfl
  show ((A' b++(ln b).H)++(x.pre6++(Rq (x.lt.eraseIdx i)++x.q.H x.bc))).Perm (A' b++(x.V9 i<|ln b).H)
  rw[h];refine (Qs (A' b) (ln b).H x.pre6<|Rq (x.lt.eraseIdx i)++x.q.H x.bc).trans ?_;rw[<-qQ (ln b).H]
  exact (((iA (ln b) z).append_right _).append_left _).append_left _⟩
def HQ.kV {x:HQ} {l:LC} {v:β->d0} {p:β->Prop} {A':β->ci} (y:x.lt[i]?=some l) (s:Df P f vs E l.H v p<|λb=>A' b++l.H) (z:∀w,E' w->HP x.H w->E w):Df P f vs E' x.H v p (λb=>A' b++x.H):=by
 have h:=HQ.zC (ln:=λ_=>l) y s z XA
 have e:x.V9 i l=x:=by
  have a:x.lt.set i l=x.lt:=qA<|λj=>by
   rw[tb];split
   .rename_i e;subst e;rw[pN (qp.1 y).1,y]
   rfl
  show ({x with lt:=x.lt.set i l}:HQ)=x
  rw[a]
 rw[e] at h;exact h
structure Hm where
 M:Mo
 s:OH
 la:List Lt.La
 rd:List (Int×Int)
def HQ.hm (x:HQ):Hm:=⟨x.q.M,x.s,x.lt.map LC.m,x.rd⟩
namespace Hm
def pin (h:Hm) (t b:Int):Int×Hm:=((h.M.pin t b).1,{h with M:=(h.M.pin t b).2,rd:=if (h.M.pin t b).1=3 then C4 b t h.rd else h.rd})
def load (h:Hm) (b:Int) (nd:Nd):Hm:={h with M:=(h.M.fill b nd).2,rd:=BY b h.rd}
def OG (h:Hm) (i:Nat):Lt.La:=h.la.getD i Lt.newL
def take (h:Hm) (i:Nat) (t:Int) (w:Bool):Hm:={h with la:=h.la.set i<|Lt.UL (h.OG i) t w}
def leave (h:Hm) (i:Nat) (t b:Int):Hm:={h with la:=h.la.set i (Lt.TT (h.OG i) t).2,M:=(h.M.Uf b).2}
def claim (h:Hm) (t:Int):Bool×Hm:=((h.M.claim t).1,{h with M:=(h.M.claim t).2})
def give (h:Hm) (t:Int):Hm:={h with M:=h.M.give t}
def N7 (h:Hm) (b:Int) (nd:Nd):Hm:={h with M:=(h.M.N7 b nd).2}
def name (h:Hm) (t b:Int) (nd:Nd):Hm:={h with M:=(h.M.name t b nd).2}
def may (h:Hm) (t:Int):Bool:=!h.la.any (λl=>decide (t∈l.q.map Prod.fst))&&h.M.may t
end Hm
def JM [DecidableEq α] {a:α}:∀{l:List<|α×β},(l.map Prod.fst).Nodup->((BY a l).map Prod.fst).Nodup
 |[],h=>h
 |(x,y)::l,h=>by
  have c:x∉l.map Prod.fst/\(l.map Prod.fst).Nodup:=ss.1 h
  simp only[BY]
  split
  .exact c.2
  .refine ss.2 ⟨λhm=>c.1 ?_,JM c.2⟩
   have key:∀{l:List<|α×β} {z:α},z∈(BY a l).map Prod.fst->z∈l.map Prod.fst:=by
    intro l
    induction l with
    |nil=>intro z b;exact b
    |cons p l ih =>
     intro z b;obtain⟨u,v⟩:=p;simp only[BY] at b;split at b
     .exact sr _ b
     rcases pj.1 b with e|e
     .exact e▸rW ..
     exact sr _<|ih e
   exact key hm
def HQ.Ok.rdk {x:HQ} (h:x.Ok B) {l:List<|Int×Int} (y:(l.map Prod.fst).Nodup):({x with rd:=l}:HQ).Ok B:=⟨h.q,h.s,h.l,h.ll,y⟩
def HQ.Ok.V9 {x:HQ} (h:x.Ok B) (i:Nat) {l':LC} (b:l'.m.Ok C) (y:B<=C) (a:C<=60000):(x.V9 i l').Ok C:=by
 refine⟨h.q.mono y a,h.s,λz c=>?_,by show (x.lt.set i l').length=_;rw[sI];exact h.ll,h.rn⟩;rcases tF c with e|e
 .exact (h.l z e).mono y
 rw[e];exact b
def HQ.Ok.bk {x:HQ} (h:x.Ok B) {k:Nat} (y:x.s.us[k]?=some true):∃bk,x.s.bl[k]?=some bk:=⟨_,pE<|by rw[h.s.len];exact (qp.1 y).1⟩
def HQ.kQ {x:HQ} {l:LC} (h:x.lt[i]?=some l):x.hm.OG i=l.m:=by
 unfold Hm.OG HQ.hm;rw[sY,qq,h];rfl
def HQ.Xjs {x:HQ} {l':LC}:(x.V9 i l').hm={x.hm with la:=x.hm.la.set i l'.m}:=by
 show (⟨x.q.M,x.s,(x.lt.set i l').map LC.m,x.rd⟩:Hm)=⟨x.q.M,x.s,(x.lt.map LC.m).set i l'.m,x.rd⟩
 rw[rH]
def HQ.Ok.Xz {x:HQ} (h:x.Ok B) {b:Int} {i:Nat} (y:x.q.M.Me b 2=some i):∃l,x.lt[i]?=some l:=by
 refine⟨_,pE ?_⟩;rw[h.ll];unfold Mo.Me at y;split at y
 .rename_i j hj;split at y
  .cases y
   exact (qp.1 (Dd hj).choose_spec.1).1
  cases y
 cases y
def Eg {st:Int} (h:M.Me b st=some i):M.find b=some i/\(M.at' i).st=st:=by
 unfold Mo.Me at h;split at h
 .rename_i j hj;split at h
  .cases h;exact⟨hj,Yo⟩
  cases h
 cases h
def IE (l:bf) (nd:Nd):Prop:=∀vb:d0,Df prog 167 [vb] (λw=>Ec w vb dt l) [] (λs:N4=>.tuple #[.agg (⟨s,nd⟩:NV).c.toArray,aa 0]) Tr<|λs=>Bo ⟨s,nd⟩
def XgW (w:d7) {H:ci} {w0:d7} {D:bm} (h:St w0 D H w) (d:Nd) (x:d.es=[]) (y:d.kids=[]) (c:d.piv=[]) (hm:d.msgs=[]):St w0 D (Bo ⟨n40,d⟩++H) w:=by
 have f:Ct n40.e d.es=AG C0 79 En.enc []:=zc;have a:CT n40.k d.kids=AG C0 3 ds []:=zd;have b:CU n40.p d.piv=AG C0 77 (Kv.enc 8) []:=by rw[c];rfl
 have z:C5 n40.m d.msgs=AG C0 154 Ms.enc []:=by rw[hm];rfl
 show St w0 D (Ct n40.e d.es::CT n40.k d.kids::CU n40.p d.piv::C5 n40.m d.msgs::H) w
 rw[f,a,b,z];exact St.add (St.add (St.add (St.add h I zG) I zG) I zG) I zG
def Xam:IE EX Vq:=λvb w h x=>(Xez w h x).mono<|λe w' ⟨_,h1,_,h3⟩=>⟨n40,h1,T0,by
 have:=XgW w' h3 Vq rfl rfl rfl rfl
 rwa[sG] at this⟩
def Xcr {x:HQ} (h:x.Ok B) {k:Nat} (z:x.s.us[k]?=some true) {bk:Bk} (y:x.s.bl[k]?=some bk):Df prog 166 [BM x.bs,aa (k:Int)] Tr x.H (λv:d0=>.tuple #[v,aa 0]) Tr (λv=>AG v 5 dt bk.l::x.H) :=
 HQ.fC (E':=λ_=>True) (A:=[]) (A':=λv:d0=>[AG v 5 dt bk.l]) (sn:=λ_=>x.s) (XgO h.s x.bs x.vB x.vU z y) oY
def Ug {x:HQ} (h:x.Ok B):Df prog 35 [BM x.bs] Tr x.H (λ_:Unit=>aa (x.s.left:Int)) Tr (λ_=>x.H) :=
 HQ.fC (E':=λ_=>True) (A:=[]) (A':=λ_:Unit=>[]) (sn:=λ_=>x.s) (Xfz h.s x.bs x.vB x.vU) oY
def xis {x:HQ} (h:x.Ok B) {k:Nat} (y:x.s.us[k]?=some true):Df prog 173 [BM x.bh,aa (k:Int)] Tr (x.H) (λ_:Unit=>.bool true) Tr (λ_=>x.H):=by
 intro w b a;obtain⟨bk,z⟩:=h.bk y;refine Ey func173 I a<|Y I<|A I<|Y I<|Mv 2 I<|N Pz I Xe I<|Lo Xb 0 I<|r I<|Z I<|Ee [] (Xcr h y z) I call166 Tt<|λv _=>Pre.world (St _ _<|_::HQ.H x) Ih ?_
 exact Mv 4 I<|A I<|Y I<|Mv 2 I<|A I<|Al<|Ae LF
def XcR {x:HQ} (h:x.Ok B) {k:Nat} (z:x.s.us[k]?=some true) {bk:Bk} (y:x.s.bl[k]?=some bk) {nd:Nd} (hd:IE bk.l nd):Df prog 117 [BM x.bh,aa (k:Int)] Tr (x.H) (λs:N4=>.tuple #[.agg (⟨s,nd⟩:NV).c.toArray,.bool true]) Tr (λs=>Bo (⟨s,nd⟩:NV)++x.H):=by
 intro w d a;refine Ey func117 I a<|Y I<|Z I<|Ax I I I zeroValue135<|λe=>Ce NZ.c I<|A I<|Y I<|Mv 2 I<|N Pz I Xe I<|Lo Xb 1 I<|r I<|Z I<|Ee [_] (Xcr h z y) I call166 Tt<|λv _=>Pre.world (St _ _<|_::_::HQ.H x) Ih ?_
 refine Mv 4 I<|A I<|Ad<|Y I<|Mv 2 I<|Nk<|Sb 19 false I (I)<|Ab I<|Ah<|Kt<|Y I<|r I<|Z I<|EH (hd v) I I I call167 I RF<|λs _=>r I<|Mv 2 I<|Z I<|Ax I I I zeroValue135<|λb=>Ce NZ.c I<|Z I<|SW AK I Nc<|A I<|Y I<|Lq I (Cq ((⟨s,nd⟩:NV).c) AV AK 0 I (I)<|I)<|Mv 2 I<|B7<|Z I<|SW AK I Nc<|A I<|Al<|Pm [3,3,3,4,4,4,4,4,4] I ?_
 exact Pm [9,9,10,9] I<|C1 I wW (id I)<|λ_ h=>⟨s,rfl,T0,h.drop.drop.drop⟩
def ZX (x:Int):Df prog 195 [aa x] Tr [] (λ_:Unit=>.bool<|OJ x) Tr (λ_=>[]):=by
 intro w a z;refine E0 func195 I z<|Y I<|A I<|Y I<|Mv 3 I<|CB 5 I (λy=>?_)<|λy=>?_
 .exact Mv 3 I<|A I<|Al<|Av I I<|λ_ h=>⟨(),congrArg Eb (by unfold OJ;rw[sT<|show 0<=x by omega];rfl),T0,h⟩
 exact Mv 3 I<|A I<|Al<|Av I I<|λ_ h=>⟨(),congrArg Eb (by unfold OJ;rw[sS<|show ¬0<=x by omega];rfl),T0,h⟩
def eS {x:HQ} (h:x.Ok B) (c:B+1<=60000) (t:Int) {k:Nat} (e:x.s.us[k]?=some true) (d:k<=256):Df prog 121 [BM x.bh,aa t,aa (k:Int)] Tr (x.H) (λy:HQ=>aa (x.hm.pin t k).1) (λy=>y.bh=x.bh/\y.Ok (B+1)/\y.hm=(x.hm.pin t k).2) (λy=>y.H):=by
 intro w g f;refine Ey func121 I f<|Y I<|A I<|Ad<|Y I<|Mv 2 I<|Z I<|Ee [] (xis h e) I call173 Tt<|λ_ _=>Pw (St _ _<|HQ.H<|x)<|Lq I (Qt I)<|Nk<|Sb 11 false I (I)<|Ab I<|Ah<|Kt<|Y I<|Mv 2 I<|N Pz I SS I<|Lo TW 0 I<|Mv 2 I<|Z I<|Ee [] (n9 h c t (k:Int)<|MP J J) I call174 Tt ?_
 rintro q ⟨hm,b⟩;refine jY ?_;refine A I<|Ad<|Y I<|Mv 2 I<|Nk<|CB 20 I (λz=>?_)<|λz=>?_
 .exact Am I<|Cr I<|Mv 2 I<|N Pz I ZW I<|Lo isAgg89 0 I<|Mv 2 I<|AQ<|Z I<|PV (k:Int) t I I ZU LY I I I<|Nk<|Y I<|r I<|A I<|Al<|Pm [1,1] I<|Av I I<|λ_ a=>⟨{x.OY q with rd:=C4 (k:Int) t x.rd},rfl,⟨rfl,HQ.Ok.rdk b<|G7 _ _ h.rn,by unfold Hm.pin HQ.hm;simp only[z,qX,hm]⟩,a⟩
 exact Ab I<|Ah<|Kt<|Y I<|r I<|A I<|Al<|Av I I<|λ_ a=>⟨x.OY q,rfl,⟨rfl,b,by unfold Hm.pin HQ.hm;simp only[z,r9,hm]⟩,a⟩
def VF {x:HQ} (h:x.Ok B) {t:Int} {k:Nat} (f:x.s.us[k]?=some true) (b:Cw (k:Int) x.rd=some t) {bk:Bk} (m:x.s.bl[k]?=some bk) {nd:Nd} (hd:IE bk.l nd) (a:nd.Sm 1000):Df prog 85 [BM x.bh,aa t,aa (k:Int)] Tr (x.H) (λy:HQ×d0×Bool=>.tuple #[y.2.1,.bool y.2.2]) (λy=>y.1.bh=x.bh/\y.1.Ok B/\y.1.hm=x.hm.load k nd) (λy=>y.1.H):=by
 intro w n e;refine Ey func85 I e<|Ad ?_;have z:HQ.Ok {x with rd:=BY (k:Int) x.rd} B:=h.rdk<|JM h.rn;refine Cr I<|Nh I<|A I<|Ad<|Y I<|Mv 2 I<|N Pz I ZW I<|Lo isAgg89 0 I<|r I<|Lq I (ML (kf:=kI) (vf:=kI) (k:Int) I ZU LY zeroValue3 I I xd)<|Mv 4 I<|A I<|Ad<|LH 8 (aa t) I (by rw[b])<|LH 9 (.bool true) I (by rw[b];rfl)<|Cr I<|Mv 4 I ?_;refine Mv 3 I<|Nk<|Sb 27 false I A3<|Ab I<|Ah<|Kt<|Y I<|Mv 2 I<|N Pz I ZW I<|Lo isAgg89 0 I<|r I<|AQ<|Z I<|IV (k:Int) I I ZU LY I I<|Nk<|Y I<|Mv 2 I<|Pm [3,3,3] I<|Pm [4,4,3] I<|Pw (St _ _<|HQ.H {x with rd:=BY (k:Int) x.rd}) ?_;refine Z I<|Ee [] (XcR (x:={x with rd:=BY (k:Int) x.rd}) z f m hd) I call117 Tt<|λs _=>Pre.world (St _ _<|_::_::_::_::HQ.H ({x with rd:=BY (k:Int) x.rd})) Ih ?_
 refine Mv 3 I<|Z I<|Ax I I I zeroValue135<|λg=>Ce NZ.c I<|Z I<|SW AK I Nc<|A I<|Ad<|LZ (rg 11) 158193 (λd=>(Ac (HQ.bh<|{x with rd:=BY (k:Int) x.rd}) 91<|HQ.cells<|{x with rd:=BY (k:Int) x.rd}).at d/\(Ac g 135<|(⟨s,nd⟩:NV).c).at d) I St.drawn Yw<|Md 2 I<|Ht Pz I SS I<|Dq I dU<|Dm I<|Dq I (AH ((⟨s,nd⟩:NV).c) I AV AK I uS (I)<|I)<|MX I<|Ee [_] (mI z (⟨s,nd⟩:NV) a (k:Int)) I call133 Tt ?_
 rintro⟨q,v⟩ ⟨hm,i⟩;refine Pre.world (St _ _<|_::_::_::_::_::_::HQ.H (({x with rd:=BY (k:Int) x.rd}:HQ).OY q)) Ih ?_;exact Ai (H2 6 0 I)<|Md 2 I<|KC I<|R I I uW<|KC I<|R I I uW<|AN<|Kt<|Al<|Ae<|Ae<|Ae<|Ae<|Ae<|Ae<|Bw (rs:=[.tmp 6,.tmp 7]) I I<|λ_ j=>⟨(HQ.OY {x with rd:=BY (k:Int) x.rd} q,v,((HQ.q x).M.fill (k:Int) nd).1.2),rfl,⟨rfl,i,yW⟩,j⟩
def Uh {x:HQ} (h:x.Ok B) {t:Int} (g:OJ t) {b:Int} {i:Nat} (a:x.q.M.Me b 2=some i) {l:LC} (z:x.lt[i]?=some l):Df prog 134 [BM x.bh,aa t,aa b] Tr (x.H) (λ_:Unit=>BM l.b) Tr (λ_=>x.H):=by
 intro w j f;refine Ey func134 I f<|Ad ?_;have d:=(qp.1 z).1;have e:(x.lt.map LC.b).length=x.lt.length:=qY ..;have y:(x.lt.map LC.b)[i]?=some l.b:=by rw[qq,z];rfl
 refine Cr I<|A I<|Ad<|Y I<|r I<|Z I<|E1 (ZX t) I call195 Tt<|λ_ _=>Lq I (Qt I)<|r I<|Sb 10 false I Xh<|Mv 2 I<|N Pz I SS I<|Lo TW 0 I<|r I<|Z I<|Ee [] (Qr h b) I call196 Tt<|λ_ _=>Pw (St _ _<|HQ.H<|x) ?_
 refine LH 16 (.bool true) I dY<|Mv 2 I<|Nk<|Ab I<|Ah<|Ks<|LZ (rg 13) 1554957 (λc=>(Ac x.bh 91 x.cells).at c/\Ec c x.vL LK (x.lt.map LC.b)) I St.drawn Xj<|Md 2 I<|Ht Pz I Yh I<|Dq I (Aj I isAgg88 I uO I)<|Md 2 I<|Ht Pz I SS I<|Dq I dU<|Dm I<|MX I<|Ee [] (j9 h b) I call194 Tt<|λ_ _=>Pw (St _ _<|HQ.H<|x) ?_
 exact LH 28 (aa (i:Int)) I (by rw[(Eg a).1];rfl)<|Ai Xj<|KC I<|R I I (Aw i I Y7 sizeOf203 I RF I I)<|KC I<|R I I (AO i 0 I isAgg203 I I RF y I) lU
def FH (m:Lt.La) (t:Int):Bool:=decide (m.wr=t)||decide (t∈m.rd)
def mK {l:LC} (hm:l.m.Ok n) (y:n<=60000) (t:Int):Df prog 175 [BM l.b,aa t] Tr l.H (λ_:Unit=>.bool<|FH l.m t) Tr (λ_=>l.H):=by
 intro w c a;have z:=hm.lens;refine Ey func175 I a<|Y I<|A I<|Y I<|r I<|Z I<|Ee [] (Lt.XdJ hm y l.b l.vR l.vQ) I call247 Tt<|λ_ _=>r I<|Mv 2 I<|CB 9 I (λx=>?_)<|λx=>?_
 .exact Mv 5 I<|A I<|Al<|Av I I<|λ_ h=>⟨(),congrArg Eb (by unfold FH;rw[sT x];rfl),T0,h⟩
 exact r I<|Z I<|Ee [] (Lt.XlH hm y l.b l.vR l.vQ) I call248 Tt<|λv _=>r I<|Z I<|E1 (Lt.aX l.m.rd t J) I call105 ur<|λ_ _=>Lq I (Qz I)<|A I<|Al<|Ae<|Av I I<|λ_ h=>⟨(),congrArg Eb (by unfold FH;rw[sS x];rfl),T0,h⟩
def oc {x:HQ} (h:x.Ok B) {i:Nat} {l:LC} (y:x.lt[i]?=some l) (t:Int):Df prog 175 [BM l.b,aa t] Tr x.H (λ_:Unit=>.bool<|FH l.m t) Tr (λ_=>x.H) :=
 HQ.kV (A':=λ_:Unit=>[]) y (mK Zv h.b9 t) oY
def eT {x:HQ} (h:x.Ok B) {i:Nat} {l:LC} (y:x.lt[i]?=some l):Df prog 247 [BM l.b] Tr x.H (λ_:Unit=>aa l.m.wr) Tr (λ_=>x.H) :=
 HQ.kV (A':=λ_:Unit=>[]) y (Lt.XdJ Zv h.b9 l.b l.vR l.vQ) oY
def ke {x:HQ} (h:x.Ok B) {i:Nat} {l:LC} (y:x.lt[i]?=some l) (t:Int) (wr:Bool):Df prog 135 [BM l.b,aa t,.bool wr] Tr x.H (λ_:d0×d0=>.bool<|Lt.VQ l.m t wr) Tr (λv=>(x.V9 i ⟨l.b,v.1,v.2,Lt.UL l.m t wr⟩).H) :=
 HQ.zC (A':=λ_:d0×d0=>[]) (ln:=λv=>⟨l.b,v.1,v.2,Lt.UL l.m t wr⟩) y (Lt.XlK Zv h.b9 l.b l.vR l.vQ t wr) oY<|λ_=>rfl
def kg {x:HQ} (h:x.Ok B) {i:Nat} {l:LC} (y:x.lt[i]?=some l) (t:Int):Df prog 176 [BM l.b,aa t] Tr x.H (λv:d0×d0×d0=>v.1) Tr (λv=>AG v.1 3 ds (Lt.TT l.m t).1::(x.V9 i ⟨l.b,v.2.1,v.2.2,(Lt.TT l.m t).2⟩).H) :=
 HQ.zC (A':=λv:d0×d0×d0=>[AG v.1 3 ds (Lt.TT l.m t).1]) (ln:=λv=>⟨l.b,v.2.1,v.2.2,(Lt.TT l.m t).2⟩) y (Lt.XiL Zv h.b9 l.b l.vR l.vQ t) oY<|λ_=>rfl
def XiQ {x:HQ} (h:x.Ok B) {i:Nat} {l:LC} (y:x.lt[i]?=some l):Df prog 130 [BM l.b] Tr x.H (λv:d0=>v) Tr (λv=>AG v 241 Lt.RU l.m.q::x.H) :=
 HQ.kV (A':=λv:d0=>[AG v 241 Lt.RU l.m.q]) y (Lt.XlG Zv h.b9 l.b l.vR l.vQ) oY
def lK {x:HQ} (h:x.Ok B) {t:Int} (f:OJ t) {b:Int} {i:Nat} (a:x.q.M.Me b 2=some i) (c:B+1<=60000) (wr:Bool):Df prog 86 [BM x.bh,aa t,aa b,.bool wr] Tr (x.H) (λy:HQ×Bool=>.bool y.2) (λy=>y.1.bh=x.bh/\y.1.Ok (B+1)/\y.1.hm=x.hm.take i t wr) (λy=>y.1.H):=by
 intro w g e;obtain⟨l,z⟩:=h.Xz a;refine Ey func86 I e<|Y I<|A I<|Y I<|Mv 3 I<|Z I<|Ee [] (Uh h f a z) I call134 Tt<|λ_ _=>Pw (St _ _<|HQ.H<|x)<|A I<|Y I<|r I<|Lq I (ER I underlying203 I I)<|r I<|Sb 16 true I j<|Mv 3 I<|Z I<|Ee [] (ke h z t wr) I call135 Tt<|λv _=>Pw (St _ _<|HQ.H<|(x.V9 i ⟨l.b,v.1,v.2,Lt.UL l.m t wr⟩)) ?_
 exact Lq I (Qy I)<|A I<|Al<|Av I I<|λ_ d=>⟨((x.V9 i ⟨l.b,v.1,v.2,Lt.UL l.m t wr⟩),Lt.VQ l.m t wr),rfl,⟨rfl,h.V9 i (C:=B+1) (Lt.Xdr (h.l l<|ry z) t wr) (tC B) c,by rw[HQ.Xjs];unfold Hm.take;rw[HQ.kQ z]⟩,d⟩
def JN {x:HQ} (h:x.Ok B) {t:Int} (f:OJ t) {b:Int} {i:Nat} (d:x.q.M.Me b 2=some i) (c:FH (x.hm.OG i) t):Df prog 122 [BM x.bh,aa t,aa b] Tr (x.H) (λy:HQ×d0=>y.2) (λy=>y.1.bh=x.bh/\y.1.Ok B/\y.1.hm=x.hm.leave i t b) (λy=>y.1.H):=by
 intro w j e;obtain⟨l,z⟩:=h.Xz d;have a:FH l.m t=true:=by rw[<-HQ.kQ z];exact c
 refine Ey func122 I e<|Y I<|A I<|Y I<|Mv 3 I<|Z I<|Ee [] (Uh h f d z) I call134 Tt<|λ_ _=>Pw (St _ _<|HQ.H<|x)<|A I<|Ad<|Y I<|r I<|Lq I (E3 I underlying203 I I)<|r I<|Sb 15 false I A3<|Mv 2 I<|Z I<|Ee [] (oc h z t) I call175 Tt<|λ_ _=>Pw (St _ _<|HQ.H<|x) ?_
 refine LH 18 (.bool true) I Vl<|Mv 2 I<|Nk<|Ab I<|Ah<|Kt<|Y I<|Mv 2 I<|Z I<|Ee [] (kg h z t) I call176 Tt<|λv _=>Pre.world (St _ _<|_::HQ.H ((x.V9 i ⟨l.b,v.2.1,v.2.2,(Lt.TT l.m t).2⟩))) Ih ?_
 have hd:HQ.Ok (x.V9 i ⟨l.b,v.2.1,v.2.2,(Lt.TT l.m t).2⟩) B:=h.V9 i (Lt.XcM (h.l l<|ry z) t) (qb B) h.b9;refine A I<|Y I<|Mv 2 I<|N Pz I SS I<|Lo TW 1 I<|r I<|Z I<|Ee [_] (j7 hd b) I call177 Tt ?_;rintro q ⟨hm,g⟩;refine Pre.world (St _ _<|_::HQ.H ((x.V9 i ⟨l.b,v.2.1,v.2.2,(Lt.TT l.m t).2⟩).OY q)) Ih ?_;exact Nk<|Y I<|r I<|A I<|Al<|Ae<|Av I I<|λ_ c=>⟨((x.V9 i ⟨l.b,v.2.1,v.2.2,(Lt.TT l.m t).2⟩).OY q,v.1),rfl,⟨rfl,g,by show (⟨q.M,x.s,(x.lt.set i _).map LC.m,x.rd⟩:Hm)=⟨_,_,_,_⟩;rw[hm,rH,HQ.kQ z];rfl⟩,c⟩
def OX:Bk:=⟨EX,Ni⟩
def OH.al (s:OH):Nat->bm×OH
 |0=>([],s)
 |n+1=>match (s.al n).2.fr with
  |some k=>((s.al n).1++[k],((s.al n).2.alloc k).put k OX)
  |none=>s.al n
def Qu (h:(s.al n).2.fr=some k):s.al (n+1)=((s.al n).1++[k],((s.al n).2.alloc k).put k OX):=by
 show (match (s.al n).2.fr with|some k=>_|none=>_)=_
 rw[h]
def OH.Ok.alloc (h:s.Ok) (k:Nat):(s.alloc k).Ok:=⟨by show (s.bl.set k _).length=(s.us.set k _).length;rw[sI,sI];exact h.len,by show 1<=(s.us.set k _).length;rw[sI];exact h.n1,by show (s.us.set k _).length<=256;rw[sI];exact h.n256⟩
def OH.Ok.put (h:s.Ok) (k:Nat) (b:Bk):(s.put k b).Ok:=⟨by show (s.bl.set k _).length=s.us.length;rw[sI];exact h.len,h.n1,h.n256⟩
def ZY (h:s.Ok):∀n,(s.al n).2.Ok
 |0=>h
 |n+1=>by
  show (match (s.al n).2.fr with|some k=>_|none=>_:bm×OH).2.Ok
  split
  .exact ((ZY h n).alloc _).put _ _
  .exact ZY h n
def ZZ (s:OH):∀n,(s.al n).1.length<=n
 |0=>qb _
 |n+1=>by
  have:=ZZ s n
  show (match (s.al n).2.fr with|some k=>_|none=>_:bm×OH).1.length<=_
  split
  .simp;omega
  .omega
def Np (h:s.fr=some k):k<s.us.length/\s.us[k]?=some false:=by
 obtain⟨y,x,z,_⟩:=Dd h;refine⟨(qp.1 x).1,?_⟩;cases y with
 |true=>cases z
 |false=>exact x
def Q7 (l:bm):bf:=l.map (λk:Nat=>(k:Int))
def HQ.Ok.RI {x:HQ} (h:x.Ok B) {s:OH} (y:s.Ok):(x.RI s).Ok B:=⟨h.q,y,h.l,h.ll,h.rn⟩
def Df.map {H:ci} {u:d0} {p:β->Prop} {h:γ->Prop} {HB:γ->ci} (g:β->γ) (s:Df P f vs E H (λ_:β=>u) p<|λb=>HB<|g b) (z:∀b,p b->h (g b)):Df P f vs E H (λ_:γ=>u) h HB:=λw x y=>(s w x y).mono<|λe w' ⟨b,h1,h2,h3⟩=>⟨g b,h1,z b h2,h3⟩
def Qv (h:M.Me b 2=some i):M.node b=((M.at' i).nd,true):=by
 unfold Mo.node Mo.ready;rw[h]
def eW (nd:Nd) (h:M.Me b 2=some i):(M.N7 b nd).1=true:=by
 unfold Mo.N7 Mo.ready;rw[h]
def Z0 (h:M.Me b 2=none):M.node b=(nd0,false):=by
 unfold Mo.node Mo.ready;rw[h]
def lH {p:α->Prop} {l:List α} {y:α} (h:∀z∈l.take k,¬p z) (b:l[k]?=some y) (a:¬p y):∀z∈l.take (k+1),¬p z:=λz x=>by
 rw[sH,b] at x
 rcases rB.1 x with x|x
 .exact h z x
 .simp at x;subst x;exact a
def Nq {x:HQ} (h:x.Ok B) {t:Int} (v:OJ t) {b:Int} {i:Nat} (o:x.q.M.Me b 2=some i) {nv:NV} (n:(x.hm.OG i).wr=t) (e:BJ nv.d) (a:nv.d.Sm 1000) {k g j p:Nr} (s:∀w,k.at w->g.at w->j.at w->p.at w->OE w nv):Df prog 204 [BM x.bh,aa t,aa b,.agg nv.c.toArray] Tr (([k,g,j,p]++x.H)) (λy:HQ=>.bool true) (λy=>y.bh=x.bh/\y.Ok B/\y.hm=x.hm.N7 b nv.d) (λy=>[k,g,j,p]++y.H):=by
 intro w E u;obtain⟨l,f⟩:=h.Xz o;have z:l.m.wr=t:=by rw[<-HQ.kQ f];exact n
 refine Ey func204 I u<|Y I<|Z I<|AT I I I I<|λA=>Ce nv.c I<|Ak I<|Y I<|Mv 3 I<|Z I<|Ee [_,_,_,_,_] (Uh h v o f) I call134 Tt<|λ_ _=>Pre.world (St _ _<|_::_::_::_::_::HQ.H x) Ih<|Ak I<|Ad<|LZ [0,1,2,3,5,4,6,7,8,9,10,11,12,13,14,15,16,17,18,19,20,21] 30218857434 (λr=>(Ac (HQ.bh<|x) 91<|HQ.cells<|x).at r/\(Ac A 135<|nv.c).at r) I St.drawn Yw<|Dm I<|Dq I (ER I underlying203 I I)<|Dm I<|Sb 16 true I ZF1<|Md 2 I<|MX I<|Ee [_,_,_,_,_] (eT h f) I call247 Tt<|λ_ _=>Pre.world (St _ _<|_::_::_::_::_::HQ.H x) Ih ?_
 refine Ai Yw<|Md 3 I<|Sb 22 true I ZF1<|Dq I iD<|MX I<|E1 (HH nv<|a.mono K) I call216 (λ_ h=>s _ kj Wj Z7<|h.at 4 I)<|λ_ _=>LH 24 (.bool true) I (by rw[e])<|Ai Yw<|Md 4 I<|Ht Pz I SS I<|Dq I dU<|Dm I<|Dq I iD<|KC I<|Ee [_] (XcP h nv a b s) I call261 Tt ?_
 rintro q ⟨hm,C⟩;refine Pre.world (St _ _<|_::_::_::_::_::HQ.H (x.OY q)) Ih ?_;exact KC I<|R I I (Qy I)<|KC I<|R I I uW<|AN<|Kt<|Al<|Ae<|Av I I<|λ_ D=>⟨x.OY q,by simp only[eW nv.d o],⟨rfl,C,yW⟩,D⟩
def K2 {x:HQ} (h:x.Ok B) (t:Int) {k:Nat} (m:x.s.us[k]?=some true) {nv:NV} (a:BJ nv.d) (z:nv.d.Sm 1000) {f b e g:Nr} (j:∀w,f.at w->b.at w->e.at w->g.at w->OE w nv):Df prog 211 [BM x.bh,aa t,aa (k:Int),.agg nv.c.toArray] Tr (([f,b,e,g]++x.H)) (λy:HQ=>.bool (x.hm.M.name t k nv.d).1) (λy=>y.bh=x.bh/\y.Ok B/\y.hm=x.hm.name t k nv.d) (λy=>[f,b,e,g]++y.H):=by
 intro w r l;refine Ey func211 I l<|Y I<|Z I<|AT I I I I<|λn=>Ce nv.c I<|A I<|Ad<|LZ (rg 18) 373071834 (λi=>(Ac (HQ.bh<|x) 91<|HQ.cells<|x).at i/\(Ac n 135<|nv.c).at i) I St.drawn Yw<|Md 2 I<|MX I<|Ee [_,_,_,_,_] (xis h m) I call173 Tt<|λ_ _=>Pre.world (St _ _<|_::_::_::_::_::HQ.H x) Ih ?_
 refine Ai Yw<|Dm I<|Dq I iD<|MX I<|E1 (HH nv<|z.mono K) I call216 (λ_ h=>j _ kj Wj Z7<|h.at 4 I)<|λ_ _=>LH 14 (.bool true) I Vl<|Ai Yw<|Md 4 I<|Ht Pz I SS I<|Dq I dU<|Md 2 I<|Dq I iD<|KC I<|Ee [_] (Xcq h nv z t (k:Int) j) I call268 Tt ?_
 rintro q ⟨hm,o⟩;refine Pre.world (St _ _<|_::_::_::_::_::HQ.H (x.OY q)) Ih ?_;exact KC I<|R I I (Qy I)<|KC I<|R I I uW<|AN<|Kt<|Al<|Ae<|Av I I<|λ_ p=>⟨x.OY q,rfl,⟨rfl,o,yW⟩,p⟩
def Xu {x:HQ} (h:x.Ok B) {t:Int} (g:OJ t) {b:Int} {i:Nat} (f:x.q.M.Me b 2=some i) {nv:NV} (z:(x.hm.OG i).wr=t) (a:BJ nv.d) (e:nv.d.Sm 1000):Df prog 204 [BM x.bh,aa t,aa b,.agg nv.c.toArray] Tr (Bo nv++x.H) (λ_:HQ=>.bool true) (λy=>y.bh=x.bh/\y.Ok B/\y.hm=x.hm.N7 b nv.d) (λy=>Bo nv++y.H):=Nq h g f z a e<|λ_=>zL
def XcS {x:HQ} (h:x.Ok B) {b:Int} {i:Nat} (a:x.q.M.Me b 2=some i):Df prog 71 [BM x.bh,aa b] Tr (x.H) (λs:N4=>.tuple #[.agg (⟨s,(x.q.M.at' i).nd⟩:NV).c.toArray,.bool true]) Tr (λs=>Bo (⟨s,(x.q.M.at' i).nd⟩:NV)++x.H):=by
 intro w f d;refine Ey func71 I d<|Y I<|Z I<|Ax I I I zeroValue135<|λg=>Ce NZ.c I<|A I<|Ad<|Y I<|Mv 2 I<|N Pz I SS I<|Lo TW 1 I<|r I<|Z I<|Ee [_] (LL h b) I call116 Tt<|λs _=>Pre.world (St _ _<|_::_::_::_::_::HQ.H x) Ih ?_
 have y:=Qv a;refine LH 14 (.tuple #[.agg (⟨s,(x.q.M.at' i).nd⟩:NV).c.toArray,.bool true]) I XE ?_;rw[y];refine Mv 3 I<|Z I<|Ax I I I zeroValue135<|λe=>Ce NZ.c I<|Z I<|SW AK I Nc<|A I<|Y I<|r I<|Nk<|Am I<|Y I<|Lq I (Cq ((⟨s,(x.q.M.at' i).nd⟩:NV).c) AV AK 0 I (I)<|I)<|AD<|Z I<|SW AK I Nc<|A I<|Al<|Ag<|Pm [6,6,6,6,6,6] I ?_
 exact Pm [7,6,6,6,6,6] I<|Ae<|C1 I wW (id I)<|λ_ z=>⟨s,rfl,T0,z.drop⟩
def Z1 {x:HQ} (h:x.Ok B) {k:Nat} (a:x.s.us[k]?=some true) (e:x.q.M.Me (k:Int) 2=none) {bk:Bk} (f:x.s.bl[k]?=some bk) {nd:Nd} (hd:IE bk.l nd):Df prog 71 [BM x.bh,aa (k:Int)] Tr (x.H) (λs:N4=>.tuple #[.agg (⟨s,nd⟩:NV).c.toArray,.bool true]) Tr (λs=>Bo (⟨s,nd⟩:NV)++x.H):=by
 intro w j z;refine Ey func71 I z<|Y I<|Z I<|Ax I I I zeroValue135<|λg=>Ce NZ.c I<|A I<|Ad<|Y I<|Mv 2 I<|N Pz I SS I<|Lo TW 1 I<|r I<|Z I<|Ee [_] (LL h k) I call116 Tt<|λb _=>Pre.world (St _ _<|_::_::_::_::_::HQ.H x) Ih ?_
 have y:=Z0 e;refine LH 14 (.tuple #[.agg (⟨b,nd0⟩:NV).c.toArray,.bool false]) I XE ?_;rw[y];refine Mv 3 I<|Z I<|Ax I I I zeroValue135<|λi=>Ce NZ.c I<|Z I<|SW AK I Nc<|A I<|Y I<|r I<|Nk<|Ab I<|Ah<|Kt<|Y I<|Mv 2 I<|p 12 [2,3,4,5,6,7,8,9,10,11,0,1] I<|Pm [10,10] I<|Z I<|Ee [_,_,_,_,_,_] (XcR h a f hd) I call117 Tt<|λs _=>Pre.world (St _ _<|_::_::_::_::_::_::_::_::_::_::HQ.H x) Ih ?_
 exact Mv 2 I<|AD<|Z I<|SW AK I Nc<|A I<|Al<|AD<|Ae<|AD<|Ae<|AD<|Ae<|AD<|Ae<|AD<|Ae<|C1 I wW (id I)<|λ_ d=>⟨s,rfl,T0,d.drop⟩
def XbB {x:HQ} (z:x.s.Ok) {k:Nat} {bk nb:Bk} {vb:d0} (h:x.s.us[k]?=some true) (y:x.s.bl[k]?=some bk):Df prog 146 [BM x.bs,aa (k:Int),vb] Tr (AG vb 5 dt nb.l::x.H) (λ_:Unit=>aa 0) Tr (λ_=>AG vb 5 dt nb.l::(x.RI<|x.s.put k nb).H) :=
 HQ.fC (E':=λ_=>True) (A:=[AG vb 5 dt nb.l]) (A':=λ_:Unit=>[AG vb 5 dt nb.l]) (sn:=λ_=>x.s.put k nb) (Xfy z x.bs x.vB x.vU (vb:=vb) (k:=k) nb h y) oY
def XbC {x:HQ} (z:x.s.Ok) {k:Nat} (y:x.s.fr=some k):Df prog 103 [BM x.bs] Tr x.H (λ_:Unit=>.tuple #[aa (k:Int),aa 0]) Tr (λ_=>(x.RI<|x.s.alloc k).H):=by
 have h:=Su z x.bs x.vB x.vU;rw[y] at h;exact HQ.fC (E':=λ_=>True) (A:=[]) (A':=λ_:Unit=>[]) (sn:=λ_=>x.s.alloc k) h oY
def LM {x:HQ} (h:x.Ok B) {b:Int} {i:Nat} (z:x.q.M.Me b 2=some i):Df prog 116 [BM x.bc,aa b] Tr x.H (λs:N4=>.tuple #[.agg (⟨s,(x.q.M.at' i).nd⟩:NV).c.toArray,.bool true]) Tr (λs=>Bo ⟨s,(x.q.M.at' i).nd⟩++x.H):=by
 have y:=LL h b;rw[Qv z] at y;exact y
def kh {x:HQ} (h:x.Ok B) (a:B+1<=60000) (t:Int):Df prog 207 [BM x.bc,aa t] Tr x.H (λ_:HQ=>.bool (x.hm.claim t).1) (λy=>y.bh=x.bh/\y.bc=x.bc/\y.Ok (B+1)/\y.hm=(x.hm.claim t).2) (λy=>y.H) :=
 Df.map (λq=>x.OY q) (j6 h a t)<|λq z=>⟨rfl,rfl,z.2,by show (⟨q.M,_,_,_⟩:Hm)=⟨_,_,_,_⟩;rw[z.1];rfl⟩
def Z2 {x:HQ} (b:x.s.Ok) {k:Nat} (z:x.s.us[k]?=some true) {bk:Bk} (y:x.s.bl[k]?=some bk):Df prog 90 [BM x.bh,aa (k:Int),.agg TV.c.toArray] Tr (x.H) (λ_:Unit=>.tuple #[]) Tr (λ_=>(x.RI<|x.s.put k OX).H):=by
 intro w f a;refine Ey func90 I a<|Y I<|Z I<|AT I I I I<|λd=>Ce TV.c I<|Nk<|Y I<|Lq I nP<|Z I<|AX Js I I I call145 I Tt<|λe _=>r I<|Mv 3 I<|A I<|Y I<|Mv 2 I<|Nk<|Sb 14 true I (I)<|Am I<|Cr I<|Mv 2 I<|N Pz I Xe I<|Lo Xb 2 I<|Mv 2 I<|Pm [2,2,2,2,2,2] I ?_
 refine Pm [7,6] I<|Z I<|Ee [_] (XbB (nb:=OX) b z y) I call146 Tt<|λ_ _=>Pre.world (St _ _<|_::_::HQ.H (x.RI<|x.s.put k OX)) Ih ?_
 exact AE<|AW<|Ae<|Ae<|Bl I xm
def Xan {x:HQ} (h:x.Ok B) {t:Int} (e:OJ t) {n:Nat} (b:1<=n) (z:n<=2) (a:n<=x.q.M.claims t) (f:x.s.left<n):Df prog 208 [BM x.bh,aa t,aa (n:Int)] Tr (x.H) (λy:HQ=>.tuple #[C0,.bool false]) (λy=>y.bh=x.bh/\y.Ok B/\y.hm=x.hm.give t) (λy=>y.H):=by
 intro w i g;refine Ey func208 I g ?_;refine Y I<|Nh I<|A I<|Ad<|Y I<|r I<|Z I<|E1 (ZX t) I call195 Tt<|λ_ _=>Lq I (Qt I)<|Nk<|Sb 13 false I (by rw[e];rfl)<|Ab I<|Ah<|Ks<|Y I<|Mv 3 I<|Sb 16 false I ve<|r I<|Lq I vd<|Mv 2 I<|Sb 20 false I ve<|Mv 2 I<|N Pz I SS I<|Lo TW 0 I<|r I<|Z I<|Ee [] (XbA h t) I call262 Tt<|λ_ _=>Pw (St _ _<|HQ.H<|x) ?_
 refine Mv 4 I<|Sb 30 false I ve<|Mv 2 I<|N Pz I Xe I<|Lo Xb 0 I<|Z I<|Ee [] (Ug h) I call35 Tt<|λ_ _=>Pw (St _ _<|HQ.H<|x)<|Mv 3 I<|Nk<|Sb 38 true I ve<|Am I<|Y I<|Mv 2 I<|N Pz I SS I<|Lo TW 0 I<|r I<|Z I<|Ee [] (mH h t) I call263 Tt ?_
 rintro q ⟨hm,d⟩;refine jY ?_;exact Nk<|Y I<|Nh I<|A I<|Al<|Ag<|Bw (rs:=[.tmp 6,.tmp 7]) I I<|λ_ c=>⟨x.OY q,rfl,⟨rfl,d,yW⟩,c⟩
def Xak {x:HQ} (h:x.Ok B) {t:Int} (u:OJ t) {n:Nat} (F:1<=n) (o:n<=2) (A:n<=x.q.M.claims t) (D:n<=x.s.left) (e:∀j,j<n->∃k,(x.s.al j).2.fr=some k):Df prog 208 [BM x.bh,aa t,aa (n:Int)] Tr (x.H) (λy:d0×HQ=>.tuple #[y.1,.bool true]) (λy=>y.2.bh=x.bh/\y.2.Ok B/\y.2.hm={x.hm with s:=(x.s.al n).2}) (λy=>AG y.1 3 ds (Q7 (x.s.al n).1)::y.2.H):=by
 intro w J m;refine Ey func208 I m ?_;refine Y I<|Nh I<|Ak I<|Ad<|Y I<|r I<|Z I<|E1 (ZX t) I call195 Tt<|λ_ _=>Lq I (Qt I)<|Nk<|Sb 13 false I (by rw[u];rfl)<|Ab I<|Ah<|Ks<|Y I<|Mv 3 I<|Sb 16 false I ve<|r I<|Lq I vd<|Mv 2 I<|Sb 20 false I ve<|Mv 2 I<|N Pz I SS I<|Lo TW 0 I<|r I<|Z I<|Ee [] (XbA h t) I call262 Tt<|λ_ _=>Pw (St _ _<|HQ.H<|x) ?_
 refine Mv 4 I<|Sb 30 false I ve<|Mv 2 I<|N Pz I Xe I<|Lo Xb 0 I<|Z I<|Ee [] (Ug h) I call35 Tt<|λ_ _=>Pw (St _ _<|HQ.H<|x)<|Mv 3 I<|Nk<|Sb 38 false I ve<|Ab I<|Ah<|Kt<|Y I<|Ak I<|Ad<|Y I<|Mv 2 I<|Nk<|row0 3 ds none<|Af ?_
 refine B6 (λ(i:Nat) (v:d0)=>[(0,BM x.bh),(8,v),(45,aa (n:Int)),(46,aa (i:Int))]) (λ(i:Nat) (v:d0)=>St w (dom x.H)<|AG v 3 ds (Q7 (x.s.al i).1)::HQ.H (x.RI (x.s.al i).2)) (λ(i:Nat) (v:d0)=>i<=n) (λ(i:Nat) (v:d0)=>n-i) (0) C0 (qc _) (Si I) Ih<|λi v hi=>Ad ?_
 have z:=ZY h.s i;have g:HQ.Ok (x.RI (x.s.al i).2) B:=h.RI z;have p:=ZZ x.s i;have C:(Q7 (x.s.al i).1).length=(x.s.al i).1.length:=qY ..;refine Cr I<|Lq I (Ql I)<|Ns<|CB 47 I (λr=>?_)<|λr=>?_
 .obtain⟨k,f⟩:=e i A1;have d:=Qu f;have b:=Np f;refine Am I<|Ah<|Ks<|Af<|Y I<|Mv 2 I<|N Pz I Xe I<|Lo Xb 1 I<|Z I<|Ee [_] (XbC (x:=(x.RI (x.s.al i).2)) z f) I call103 Tt<|λ_ _=>Pre.world (St _ _<|_::HQ.H (((x.RI (x.s.al i).2).RI<|(x.s.al i).2.alloc k))) Ih<|Mv 4 I<|Ak I<|Y I<|Mv 2 I<|Lq I dK<|Z I ?_
  refine Ee [_] (Z2 (x:=((x.RI (x.s.al i).2).RI<|(x.s.al i).2.alloc k)) (z.alloc k) (k:=k) (by show ((x.s.al i).2.us.set k true)[k]?=some true;exact tE b.1) (bk:=Bk.zero)<|by show ((x.s.al i).2.bl.set k Bk.zero)[k]?=some Bk.zero;exact tE<|by rw[z.len];exact b.1) I call90 (λ_ _=>trivial) ?_;intro _ _;refine Pre.world (St _ _<|_::HQ.H ((((x.RI (x.s.al i).2).RI<|(x.s.al i).2.alloc k).RI<|((x.s.al i).2.alloc k).put k OX))) Ih ?_;refine Nk<|Cr I<|Mv 2 I<|Z I<|As (sz:=1) [.tmp 61] I I I I I KI Z3 I zeroValue3 I<|λG=>AD<|Z I<|Ap KI KI CD I (λ_ h=>AR kj ds [(k:Int)] I I) A8<|λE=>Ba (show _=Q7 (x.s.al<|i+1).1 from by rw[d];simp[Q7])<|zI ?_
  exact AJ ((i+1,E)) A4 A4 (Si I)<|λ_ h=>by dsimp only;rw[d] at *;exact h
 have a:i=n:=by omega
 exact Ab I<|AP<|Aa<|Aa<|Ar<|Kt<|Y I<|Mv 2 I<|Ak I<|Al<|Bw (rs:=[.tmp 6,.tmp 7]) I I<|λ_ l=>⟨(v,(x.RI (x.s.al i).2)),rfl,⟨rfl,g,dY⟩,by rw[a] at l;rw[a];exact l⟩
def Z6 (y:Lt.Wt) (b:Nat) (t:Int):Df prog 131 [.agg (Lt.RU.f y).toArray,pV b] Tr [Ac b 3 [aa t]] (λ_:Unit=>.bool<|decide (y.1=t)) Tr (λ_=>[Ac b 3 [aa t]]):=by
 intro w z x;refine enter (n:=8) (vs:=[.agg (Lt.RU.f y).toArray,pV b]) (St w [b] [Ac b 3 [aa t]]) func131 I I I aQ ?_;exact ZEX