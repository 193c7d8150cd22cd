/- Part 7. -/
import Derived.Test.YtloldofjddbjoaaGreatJ6
set_option linter.all false
set_option maxHeartbeats 8000000
set_option maxRecDepth 100000
namespace Go.Proofs.YtloldofjddbjoaaGreat
open Go.Sep Go.RowKit Tryz
def Xe6 {va:d0} (l:ct) (O:∀e∈l,e.Bd) (H:2<=l.length) (u:0<lby l) (hn:l.length<=30000):Df prog 295 [va] (λw=>Ec w va En.enc l) [] (λv:d0×d0=>.tuple #[v.1,v.2,.agg (l.getD (spl l) en0).key.c.toArray,.bool true]) Tr (λv=>[AG v.1 79 En.enc<|l.take<|spl l,AG v.2 79 En.enc<|l.drop<|spl l]):=by
 intro w z hH;have L:=P5 O l.length;rw[tg] at L;have Z : -2000*(l.length:Int)<=lby l/\lby l<=2002*(l.length:Int):=L;refine E0 func295 I hH<|Cs I<|Mv 2 I<|LW I<|Ax I I I zeroValue77<|λD=>Ce (Na 8).c I<|Ak I<|Ad<|Cs I<|Lm I<|Lq I (AM I O8 I z.kp)<|Lq I (Ql I)<|Nk<|Sf 11 I A1<|Ab I<|Ah<|Kt<|Cs I<|Lm I<|LW I<|E1 (Lz l O A1) I call307 z.kp<|λ_ _=>Nh I<|Nh I<|Ak I<|Ad ?_
 refine ES (λ(i:Nat)=>[(0,va),(4,pV D),(6,aa (i:Int))]) (λ(i:Nat)=>St w [] [Ac D 77 (Na 8).c]) (λ(i:Nat)=>i<l.length/\0<i/\spl l=i) ?_ ?_
 .refine Af ?_;refine Bm (λ(i:Nat)=>[(0,va),(4,pV D),(6,aa (i:Int)),(7,aa<|lby<|l.take i),(8,aa<|lby l)]) (λ(i:Nat)=>St w [] [Ac D 77 (Na 8).c]) (λ(i:Nat)=>i<l.length/\∀j,j<i->FG l j=true) (λ(i:Nat)=>l.length-i) (0) ⟨A1,λj h=>absurd h<|s6 _⟩ (Si I) Ih<|λi hp=>Ad<|Ad ?_
  obtain⟨hi,hj⟩:=hp;have V:=P5 O i;have Y : -2000*(i:Int)<=lby (l.take i)/\lby (l.take i)<=2002*(i:Int):=V;refine Cr I<|Mv 2 I<|Lq I (AM I O8 I z.kp)<|Lq I yw<|Mv 2 I<|CB 20 I (λh1=>?_)<|λh1=>?_
  .refine Mv 3 I (Lq I yw<|Mv 2 I<|Nk<|CB 26 I (λQ=>?_)<|λQ=>?_)
   .have d:FG l i=true:=by unfold FG;rw[sT (show i<l.length-1 by omega),sT Q];rfl
    obtain⟨c,C⟩:=gE l i;have R:=O c<|ry C;have W:=M6 C;have h4:S9 c=2+c.key.n+c.val.n:=rfl;unfold En.Bd at R;refine Am I<|Ah<|Kt<|Af<|Cs I<|Mv 3 I<|Lq I iP<|Lq I (Bc i I Yc Qc I I z.kp C)<|LW I<|E1 (M0 c<|O c<|ry C) I call308 Tt<|λ_ _=>Lq I py<|Ak I<|gZ ?_
    exact AJ (i+1) A1 ⟨A1,λj h=>by
     rcases tN.1 h with h|rfl
     .exact hj j h
     exact d⟩ (Sub.cons I<|Sub.cons I<|Sub.cons I<|Sub.RJ I (by rw[W])<|Si I) Jx
   have d:FG l i=false:=by unfold FG;rw[sS Q];simp
   have m:spl l=i:=Xcy hi hj d
   have P:0<i:=by
    exact ZD5
   refine Ab I<|AP<|Aa<|Aa<|Ar ?_;exact Bf i ⟨hi,P,m⟩ (Si I) Jx
  have d:FG l i=false:=by unfold FG;rw[sS<|show ¬i<l.length-1 by omega];rfl
  have m:spl l=i:=Xcy hi hj d
  have P:0<i:=by
   exact ZD5
  refine Mv 6 I<|Nk<|Ab I<|AP<|Aa<|Aa<|Ar ?_;exact Bf i ⟨hi,P,m⟩ (Si I) Jx
 rintro i ⟨hi,P,m⟩;refine Ad ?_;obtain⟨c,C⟩:=gE l i;have h3:∀k,(List.replicate k en0).length=k:=λk=>s9 ..
 refine Ew (λ(o:d0) (q:d0)=>[(0,va),(2,o),(3,q),(4,pV D),(6,aa (i:Int))]) (λ(o:d0) (q:d0)=>St w [] [AG o 79 En.enc<|List.replicate i en0,AG q 79 En.enc<|List.replicate (l.length-i) en0,Ac D 77 (Na 8).c]) (λ(o:d0) (q:d0)=>True) ?_ ?_
 .refine DP (λU=>Ec U va En.enc l) I St.drawn (Aq 0 I z.kp uf<|Aq 2 I z.kp uf<|Aq 3 I z.kp (AM I O8 I Ih)<|Aq 4 I z.kp uf<|Aq 5 I z.kp yw<|QZ 1 6 I ?_ ?_)
  .refine CY En.enc en0 i I I I O8 Ep I I I I I I I zl A1 (λva=>Ai z.kp<|Aq 7 I z.kp uW<|Ay 6 I<|CY En.enc en0 (l.length-i) I I I O8 Ep I I I I I A1 A1 zl A1<|λvb=>Ai z.kp<|Aq 8 I z.kp uW<|An<|Pm [1] I ?_);exact Bf ((va,vb)) trivial (Si I) Jx
  refine CY En.enc en0 (l.length-i) I I I O8 Ep I I I I I A1 A1 zl A1 (λvb=>Ai z.kp<|Ay 1 I<|CY En.enc en0 i I I I O8 Ep I I I I I I I zl A1<|λva=>Ai z.kp<|Aq 7 I z.kp uW<|Aq 8 I z.kp uW<|An ?_);exact Bf ((va,vb)) trivial (Si I) Jx
 intro o q _;refine Ad<|Dk dO<|λba N b x S p f=>?_
 subst S;rw[s9] at p f;rw[s9];have J:(b++En.enc.flat (List.replicate i en0)++x).length=b.length+i*26+x.length:=oP;have s:min (l).length i=i:=Nat.min_eq_right A1;have F:(l).take (min (l).length i)=(l.take i):=by rw[s]
 have B:((l.take i)).length=i:=xN;refine Cr I<|Mv 2 I<|LW I<|PQ (E:=En.enc) (l:=l) I I I O8 Qc I I z.kp (by rw[J,s];show b.length+i*26<=_;omega)<|Bb (cs':=b++En.enc.flat ((l.take i))++x) (by rw[F];exact Sep.XP _ _ b x<|by rw[Enc.oU,Enc.oU,s9,B])<|F6 (E:=En.enc) (len:=i) (cap:=N) ((l.take i)) b x I B A1 p f<|Nk<|Cs I<|Mv 3 I<|Lq I (DC i I O8 Qc I z.kp I I A1)<|AD<|Dk dO<|λbb K a y T r g=>?_
 subst T;rw[s9] at r g;rw[s9];have G:(a++En.enc.flat (List.replicate (l.length-i) en0)++y).length=a.length+(l.length-i)*26+y.length:=oP;have t:min ((l.drop i)).length (l.length-i)=(l.length-i):=by rw[pJ];exact Nat.min_self _
 have M:((l.drop i)).take (min ((l.drop i)).length<|l.length-i)=(l.drop i):=by rw[t];exact pZ<|by rw[pJ];exact qb _
 have A:((l.drop i)).length=(l.length-i):=pJ;refine LW I<|PQ (E:=En.enc) (l:=(l.drop i)) I I I O8 Qc I I (λ_ h=>by have:=Cg (z.keep h A3) (lo:=i) (hi:=l.length) A1<|qb _;rwa[tg] at this) (by rw[G,t];show a.length+(l.length-i)*26<=_;omega)<|Bb (cs':=a++En.enc.flat ((l.drop i))++y) (by rw[M];exact Sep.XP _ _ a y<|by rw[Enc.oU,Enc.oU,s9,A])<|F6 (E:=En.enc) (len:=(l.length-i)) (cap:=K) ((l.drop i)) a y I A A1 r g<|Ns<|LZ (rg 11) 157464 (λU=>Ec U va En.enc l) I St.drawn z.kp<|Md 4 I<|Dq I (Aw i I O8 Qc I Ih I I)<|Ht Rj I MW I<|Dq I (BK c.key.c i 0 I OO MW I I Ih C A2 aP)<|Md 2 I<|AQ<|KC I<|AF I I MW I I Nw PU (by first|decide|(show 0+(Kv.c _).length<=(Kv.c _).length;rw[Kv.oQ,Kv.oQ];decide))<|Ce (c.key).c wH<|iU ?_;refine Pm [2,1] I ?_;have X:c.key=(l.getD (spl l) en0).key:=by rw[m,DO C]
 exact Gd I (id I) (id I) (AL I OO MW xd Nw) (id I)<|λ_ h=>⟨(_,_),by rw[X],T0,by rw[m];exact h.sublist<|tA.2<|tA.2<|sj _⟩
def RX (es:ct):Nd:=⟨true,es,[],[],[]⟩
abbrev OL (s:Sv) (es:ct):NV:=⟨⟨s,sv0,sv0,sv0⟩,RX es⟩
def V7 (z:Int):Bool:=decide (1<=z)&&decide (z<256)
def IB (x:Int):Df prog 269 [aa x] Tr [] (λ_:Unit=>.bool<|V7 x) Tr (λ_=>[]):=by
 intro w a z;refine E0 func269 I z<|Y I<|A I<|Y I<|C 3 I<|B 5 I (λy=>?_)<|λy=>?_
 .exact C 3 I<|A I<|Al<|Av I I<|λ_ h=>⟨(),congrArg Eb (by unfold V7;rw[sT<|show 1<=x by omega];rfl),T0,h⟩
 exact C 3 I<|A I<|Al<|Av I I<|λ_ h=>⟨(),congrArg Eb (by unfold V7;rw[sS<|show ¬1<=x by omega];rfl),T0,h⟩
def Gz (nv:NV) (f:∀e∈nv.d.es,e.Bd) (i:2<=nv.d.es.length) (x:0<lby nv.d.es) (q:nv.d.es.length<=30000):Df prog 267 [.agg nv.c.toArray] (λw=>OE w nv) [] (λb:Sv×Sv=>.tuple #[.agg (OL b.1<|Ri nv).c.toArray,.agg (OL b.2<|Rh nv).c.toArray,.agg (Rk nv).c.toArray,.bool true]) Tr (λb=>[Ct b.1<|Ri nv,Ct b.2<|Rh nv]):=by
 intro w o m;refine E0 func267 I m<|Y I<|Z I<|AT I I I I<|λr=>M nv.c I<|Z I<|Ax I I I zeroValue135<|λl=>M NZ.c I<|Z I<|Ax I I I zeroValue135<|λp=>M NZ.c I<|Z I<|Ax I I I zeroValue77<|λn=>M (Na 8).c I<|A I<|Y I<|Lq I dK<|Lq I dK<|AQ<|Z I<|SW AK I Nc<|AQ<|Z I<|SW AK I Nc<|Ns<|Y I<|N Bj I RQ I<|Lo UN 3 I<|Z I<|DD (Xe6 nv.d.es f i x q) I I I call295 I o.e.kp ?_
 intro ⟨va,vb⟩ _;refine C 5 I<|N Bj I RQ I<|WA ?_;rintro⟨y,a,k⟩;dsimp only at k;subst k;refine Pre.fact (λ_ h=>CQ kj) ?_;rintro⟨z,g,f⟩;dsimp only at f;subst f;refine BP<|Z I<|AB I I RQ I I I dA<|M (OL (⟨y,(Ri nv).length,a⟩:Sv)<|Ri nv).c I<|N Bj I RQ I<|BP<|Z I<|AB I I RQ I I I dA<|M (OL (⟨z,(Rh nv).length,g⟩:Sv)<|Rh nv).c I<|Cd<|Z I<|AF I I MW I I Nw PU vA<|M (Rk nv).c wH<|A I<|Y I<|C 2 I<|G<|Sb 19 false I (I)<|Ab I<|Ah<|Ks<|LZ (rg 7) 2052 (λj=>(Ac l 135 (OL (⟨y,(Ri nv).length,a⟩:Sv)<|Ri nv).c).at j/\(Ac p 135 (OL (⟨z,(Rh nv).length,g⟩:Sv)<|Rh nv).c).at j/\(Ac n 77 (Rk nv).c).at j) I St.drawn aH<|Dq I (AH ((OL (⟨y,(Ri nv).length,a⟩:Sv)<|Ri nv).c) I AV AK I uO (I)<|I) ?_;refine Dq I (AH ((OL (⟨z,(Rh nv).length,g⟩:Sv)<|Rh nv).c) I AV AK I wV (I)<|I)<|Dq I ZGM<|AQ<|MX I<|SW AK I Nc<|Ai (Hc 0 2 1 I)<|AQ<|MX I<|SW AK I Nc<|Ai (Hc 1 0 2 I)<|AQ<|KC I<|AF I I MW I I Nw PU vA<|M (Rk nv).c wH<|KC I<|OC I I uW<|AN<|Kt<|Al<|Pm [4,2,1] I ?_;exact Cd<|Gd I aA (AL I AV AK Uu<|I) (AL I OO MW RY Nw) (id I)<|λ_ h=>⟨((⟨y,(Ri nv).length,a⟩:Sv),(⟨z,(Rh nv).length,g⟩:Sv)),rfl,T0,h.sublist<|tA.2<|tA.2<|sj _⟩
def Sk (nv:NV) (l:nv.d.leaf) (f x:Int) (q:¬f=x) (r:V7 f) (n:V7 x) (u:∀e∈nv.d.es,e.Bd) (i:2<=nv.d.es.length) (g:0<lby nv.d.es) (t:nv.d.es.length<=30000):Df prog 212 [.agg nv.c.toArray,aa f,aa x] (λw=>OE w nv) [] (λb:Sv×Sv×Sv×Sv=>.tuple #[.agg (⟨⟨sv0,b.2.2.1,b.2.2.2,sv0⟩,⟨false,[],[f,x],[Rk nv],[]⟩⟩:NV).c.toArray,.agg (OL b.1<|Ri nv).c.toArray,.agg (OL b.2.1<|Rh nv).c.toArray,.bool true]) Tr (λb=>[Ct b.1<|Ri nv,Ct b.2.1<|Rh nv,CT b.2.2.1 [f,x],CU b.2.2.2 [Rk nv]]):=by
 intro w p A;refine E0 func212 I A ?_;refine Y I<|Z I<|AT I I I I<|λo=>M nv.c I<|Z I<|Ax I I I zeroValue135<|λv=>M NZ.c I<|Z I<|Ax I I I zeroValue135<|λm=>M NZ.c I<|Z I<|Ax I I I zeroValue135<|λs=>M NZ.c I<|Ak I<|Ad<|Y I<|C 4 I<|Sf 14 I q<|Lm I<|Z I<|E1 (IB f) I call269 Tt<|λ_ _=>Lq I (Qt I)<|C 2 I<|Sb 19 false I (by rw[r];rfl)<|Lm I<|Z I<|E1 (IB x) I call269 Tt<|λ_ _=>Lq I (Qt I)<|Lq I (Qz I)<|G<|Sb 23 false I (by rw[n];rfl)<|Ab I<|Ah<|Ks ?_
 refine dE (λ(y:Sv) (z:Sv) (a:Nat)=>[(1,aa f),(2,aa x),(3,pV o),(6,pV v),(7,pV m),(8,pV s),(9,.bool true),(10,pV a)]) (λ(y:Sv) (z:Sv) (a:Nat)=>St w [] [Ct y<|Ri nv,Ct z<|Rh nv,Ac a 77 (Rk nv).c,Ac s 135 (OL z<|Rh nv).c,Ac m 135 (OL y<|Ri nv).c,Ac v 135 NZ.c,Ac o 135 nv.c]) (λ(y:Sv) (z:Sv) (a:Nat)=>True) ?_ ?_
 .refine DP (λk=>(Ac o 135 nv.c).at k) I St.drawn (Aq 0 I Uu iC<|Aq 3 I Uu iC<|QZ 1 10 I ?_ ?_)
  .refine E1 (Fz nv l) I call270 Tt (λ_ _=>Ai Uu<|Aq 2 I Uu iR<|QZ 4 10 I ?_ ?_)
   .refine ou ?_;rintro⟨y,z⟩ _;refine Pw (St _ _<|Ct y (Ri nv)::Ct z (Rh nv)::_) ?_;refine Ai Ve<|Aq 5 I Ve uf<|Aq 6 I Ve (Qx I)<|Aq 7 I Ve (Qx I)<|Aq 8 I Ve (Qx I)<|Aq 9 I Ve (Qx I)<|Ay 10 I<|Ax I I I zeroValue77<|λa=>M (Na 8).c I<|Ai TQ<|Cd<|Ay 11 I<|SW AK I Nc<|Ai TQ<|Cd<|Ay 12 I<|SW AK I Nc<|Ai TQ<|AQ<|Ay 13 I<|AF I I MW I I Nw PU vA<|M (Rk nv).c wH<|Ai TQ<|Aq 14 I TQ uW<|An<|Pm [0,0,0,2,2] I ?_
    refine Pm [5,5] I ?_;exact Bf ((y,z,a)) trivial (Si I) Jx
   refine Ax I I I zeroValue77 (λa=>M (Na 8).c I<|Ai RY<|Ay 4 I<|ou ?_);exact xr
  refine Ax I I I zeroValue77 (λa=>M (Na 8).c I<|Ai RY<|Ay 1 I<|E1 (Fz nv l) I call270 Tt<|λ_ _=>Ai RY<|Aq 2 I RY iR<|Ay 4 I<|ou ?_);exact xr
 intro y z a _;refine Ad<|Y I<|C 2 I<|G<|Ab I<|Ah<|Ks<|DP (λk=>(Ac m 135 (OL y<|Ri nv).c).at k/\(Ac s 135 (OL z<|Rh nv).c).at k/\(Ac a 77 (Rk nv).c).at k) I St.drawn<|Aq 0 I Xi uf<|Aq 1 I Xi uf<|Aq 3 I Xi ZGM<|Aq 6 I Xi (AH ((OL y<|Ri nv).c) I AV AK I uO (I)<|I)<|Aq 7 I Xi (AH ((OL z<|Rh nv).c) I AV AK I wV (I)<|I) ?_;refine QZ 2 4 I ?_ ?_
 .refine As (sz:=1) [.tmp 42,.tmp 43] I I I I I KI Z3 I zeroValue3 I (λbk=>Ai (Hc 5 4 3 I)<|Ay 4 I<|As (sz:=9) [.tmp 45] I I I I I CZ MW I zeroValue77 xP<|λj=>Ai (Hc 6 5 4 I)<|Aq 5 I (Hc 6 5 4 I) Xd3<|FL<|Ay 8 I<|SW AK I Nc<|Ai (Hc 7 6 5 I)<|FL<|Ay 9 I<|SW AK I Nc<|Ai (Hc 0 7 6 I)<|FL<|Ay 10 I<|SW AK I Nc<|Ai (Hc 1 0 7 I)<|Aq 11 I (Hc 1 0 7 I) uW<|An<|Kt<|Al<|Cd<|Sj ds [f,x] I I<|Cd ?_);exact Sj (Kv.enc 8) [Rk nv] I I<|Pm [5,5,1,0,2,1] I<|Gd I aC (AL I AV AK Ve<|I) (AL I AV AK TQ<|I) (id I)<|λ_ h=>⟨(y,z,⟨some ⟨bk,0,none⟩,2,2⟩,⟨some ⟨j,0,none⟩,1,1⟩),rfl,T0,h.sublist<|tA.2<|tA.2<|tA.2<|tA.2<|sj _⟩
 refine As (sz:=9) [.tmp 45] I I I I I CZ MW I zeroValue77 xP (λj=>Ai (Hc 5 4 3 I)<|Ay 2 I<|As (sz:=1) [.tmp 42,.tmp 43] I I I I I KI Z3 I zeroValue3 I<|λbk=>Ai (Hc 6 5 4 I)<|Aq 5 I (Hc 6 5 4 I) Xd3<|FL<|Ay 8 I<|SW AK I Nc<|Ai (Hc 7 6 5 I)<|FL<|Ay 9 I<|SW AK I Nc<|Ai (Hc 0 7 6 I)<|FL<|Ay 10 I<|SW AK I Nc<|Ai (Hc 1 0 7 I)<|Aq 11 I (Hc 1 0 7 I) uW<|An<|Kt<|Al<|BP<|Sj ds [f,x] I I<|Cd ?_);exact Sj (Kv.enc 8) [Rk nv] I I<|Pm [5,5,1,0,2,1] I<|Gd I aC (AL I AV AK Ve<|I) (AL I AV AK TQ<|I) (id I)<|λ_ h=>⟨(y,z,⟨some ⟨bk,0,none⟩,2,2⟩,⟨some ⟨j,0,none⟩,1,1⟩),rfl,T0,h.sublist<|tA.2<|tA.2<|tA.2<|tA.2<|sj _⟩
end Go.Proofs.YtloldofjddbjoaaGreat
namespace Go.Sep
structure NU (Λ:Type) where
 ix:Nat
 sl:Nat
 dp:bm
 vl:List Λ->d0
 hn:List Λ->ci:=λ_=>[]
 pf:List Λ->Prop:=λ_=>True
namespace NU
variable {Λ:Type}
def ls (u:NU Λ) (σ:Nat->Λ):List Λ:=(u.ix::u.dp).map σ
def V (u:NU Λ) (σ:Nat->Λ):Nat×d0:=(u.sl,u.vl<|u.ls σ)
def H (u:NU Λ) (σ:Nat->Λ):ci:=u.hn<|u.ls σ
def F (u:NU Λ) (σ:Nat->Λ):Prop:=u.pf<|u.ls σ
def deps (U:List<|NU Λ) (u:NU Λ):List (NU Λ):=u.dp.filterMap<|λj=>U.find?<|λv=>v.ix == j
end NU
variable {Λ:Type}
def SB (A:bz):List (NU Λ)->bz
 |[]=>A
 |u::us=>(SB A us).setIfInBounds u.ix true
def M7 (A:bz):∀us:List<|NU Λ,(SB A us).size=A.size
 |[]=>rfl
 |u::us=>by rw[SB,Array.size_setIfInBounds,M7 A us]
def HK (A:bz) (i:Nat):∀us:List<|NU Λ,(SB A us)[i]?=if i∈us.map NU.ix/\i<A.size then some true else A[i]?
 |[]=>by simp[SB]
 |u::us=>by
  rw[SB,rP,HK A i us,M7]
  by_cases h:u.ix=i
  .subst h;by_cases h2:u.ix<A.size<;>simp[h2]
  .have:¬i=u.ix:=λe=>h e.symm
   simp[h,this]
def fG (A:bz):bm->bz
 |[]=>A
 |i::is=>(fG A is).setIfInBounds i true
def Xb5 (A:bz) (i:Nat):∀is:bm,(fG A is).getD i true=true->i∈is\/A.getD i true=true
 |[],h=>.inr h
 |j::is,h=>by
  rw[fG,rN,rP] at h
  by_cases e:j=i
  .exact .inl<|e▸rW ..
  .rw[pQ e,<-rN] at h
   rcases Xb5 A i is h with h|h
   .exact .inl<|sr _ h
   .exact .inr h
def XgJ {ops:bM} {A B:bz} {i:Nat} (h:∀j,A.getD j true=true->B.getD j true=true) (x:Region.free .any ops A i):Region.free .any ops B i=true:=by
 unfold Region.free at x ⊢;cases hi:ops[i]? with
 |none=>rw[hi] at x;cases x
 |some o =>
  rw[hi] at x;simp only[rT,qm,Bool.or_eq_true] at x ⊢;intro j hj;rcases x j hj with (y|y)|y
  .exact .inl Xp
  .exact .inl<|.inr<|h j y
  exact .inr y
def XgK (A:bz) {us vs:List<|NU Λ} (h:∀i,i∈us.map NU.ix↔i∈vs.map NU.ix):SB A us=SB A vs :=
 Array.ext_getElem?<|λi=>by rw[HK,HK];simp only[h i]
def EV {E L:Env} {s:Nat}:look (E++L) s=match look E s with|some v=>some v|none=>look L s:=by
 induction E with
 |nil=>rfl
 |cons p E ih =>
  obtain⟨i,v⟩:=p;simp only[pt,look];cases i.beq s<;>simp[ih]
def Ha {E:Env} {s:Nat} {v:d0} (h:look E s=some v):(s,v)∈E:=by
 induction E with
 |nil=>cases h
 |cons p E ih =>
  obtain⟨i,u⟩:=p;simp only[look] at h;by_cases hi:i=s
  .subst hi;simp at h;subst h;exact rW ..
  have:i.beq s=false:=by rw[rM];intro x;exact hi (Nat.eq_of_beq_eq_true x)
  rw[this] at h;exact sr _<|ih h
def Qf {E:Env} {s:Nat} {v:d0} (y:(E.map Prod.fst).Nodup) (h:(s,v)∈E):look E s=some v:=by
 induction E with
 |nil=>cases h
 |cons p E ih =>
  obtain⟨i,u⟩:=p;have x:i∉E.map Prod.fst/\(E.map Prod.fst).Nodup:=ss.1 y;simp only[look];rcases pj.1 h with e|h
  .cases e;simp
  have:i.beq s=false:=by
   rw[rM];intro z;have e:=Nat.eq_of_beq_eq_true z;subst e;exact x.1<|qj.2 ⟨_,h,rfl⟩
  rw[this];exact ih x.2 h
def XaG {E:Env} {s:Nat} (h:s∉E.map Prod.fst):look E s=none:=by
 cases hx:look E s with
 |none=>rfl
 |some v=>exact absurd (qj.2 ⟨_,Ha hx,rfl⟩) h
section par
variable {P:d8} {n:Nat} {L0:Env} {Q:aB} {S:aU} {l:bv} {w0:d7} {D:bm} {Hb:ci} {U:List (NU Λ)} {A0:bz} {k:Nat}
def XaI (P:d8) (n:Nat) (L0:Env) (Q:aB) (l:bv) (w0:d7) (D:bm) (Hb:ci) (U:List<|NU Λ) (u:NU Λ):Prop :=
 ∃o,l[u.ix]?=some o/\o.guard=none/\∀(σ:Nat->Λ) (R:Env) (F:ci) (K:aO),(∀v∈u.deps U,v.F σ) ->
  (∀x:Λ,u.pf (x::u.dp.map σ)->Pre n ((u.sl,u.vl<|x::u.dp.map σ)::((u.deps U).map (NU.V · σ)++(L0++R))) (St w0 D (u.hn (x::u.dp.map σ)++((u.deps U).flatMap (NU.H · σ)++(Hb++F)))) K) ->
  Nl P n ((u.deps U).map (NU.V · σ)++(L0++R)) (St w0 D ((u.deps U).flatMap (NU.H · σ)++(Hb++F))) o Q K
def XaJ (P:d8) (n:Nat) (L0:Env) (l:bv) (S:aU) (U:List<|NU Λ) (u:NU Λ):Prop :=
 (∀ls,u.hn ls=[])/\(∀ls,u.pf ls)/\u.sl.blt n=true/\∃o,l[u.ix]?=some o/\o.guard=none/\o.dst=some u.sl/\∀(σ:Nat->Λ) (R:Env),(∀v∈u.deps U,v.F σ)->MV P n ((u.deps U).map (NU.V · σ)++(L0++R)) S o (u.V σ).2
def Zz (l:bv) (L0:Env) (U1 U2:List<|NU Λ) (A0:bz):Bool :=
 let U:=U1++U2
 decide ((U.map NU.ix).Nodup/\(U.map NU.sl).Nodup)&&L0.all (λp=>!(U.map NU.sl).contains p.1)&&decide (A0.size=l.length) &&
 U.all (λu=>(A0.getD u.ix true == false)&&u.dp.all (λj=>(U.map NU.ix).contains j&&EN .any l.toArray j l.length u.ix)&&decide u.dp.Nodup) &&
 (List.range l.length).all (λt=>A0.getD t false||(U.map NU.ix).contains t||U1.all (λu=>EN .any l.toArray u.ix l.length t)) &&
 (List.range l.length).all (λt=>((l.toArray[t]?).getD default).after.toList.all<|λe=>!Region.binds .any e||decide (e.on<t)&&(!A0.getD t false||A0.getD e.on false)) &&
 (Region.noSelect l.toArray&&U2.all (λu=>u.dp.all (λj=>decide (j<u.ix))&&Region.free .any l.toArray (fG A0 u.dp) u.ix&&((l.toArray[u.ix]?).getD default).after.toList.all (λe=>!Region.binds .any e||A0.getD e.on false||u.dp.contains e.on)))
structure Xc6 (l:bv) (L0:Env) (U1 U2 U:List (NU Λ)) (A0:bz):Prop where
 ni:(U.map NU.ix).Nodup
 ns:(U.map NU.sl).Nodup
 l0:∀p∈L0,p.1∉U.map NU.sl
 sz:A0.size=l.length
 un:∀u∈U,A0[u.ix]?=some false
 dp:∀u∈U,∀j∈u.dp,j∈U.map NU.ix/\EN .any l.toArray j l.length u.ix=true
 dn:∀u∈U,u.dp.Nodup
 out:∀t,A0[t]?=some false->t∉U.map NU.ix->∀u∈U1,EN .any l.toArray u.ix l.length t=true
 ord:∀t o,l[t]?=some o->∀e∈o.after,Region.binds .any e=true->e.on<t/\(A0.getD t false=true->A0.getD e.on false=true)
 ns2:Region.noSelect l.toArray=true
 lt:∀u∈U2,∀j∈u.dp,j<u.ix
 fr:∀u∈U2,Region.free .any l.toArray (fG A0 u.dp) u.ix=true
 af:∀u∈U2,∀o,l[u.ix]?=some o->∀e∈o.after,Region.binds .any e=true->A0.getD e.on false=true\/e.on∈u.dp
def XhB {z a:List<|NU Λ} (A:U=z++a) (h:Zz l L0 z a A0):Xc6 l L0 z a U A0:=by
 subst A;unfold Zz at h;simp only[qW,rA,rT,qm,Bool.or_eq_true,rV,List.contains_eq_mem,rI,rS] at h;obtain⟨⟨⟨⟨⟨⟨⟨v,s⟩,B⟩,p⟩,f⟩,r⟩,D⟩,w,g⟩:=h
 have d:∀u∈z++a,A0[u.ix]?=some false:=λu x=>by
  have:=(f u x).1.1;rw[rN] at this;cases i:A0[u.ix]? with
  |none=>rw[i] at this;cases this
  |some b=>rw[i] at this;simp at this;subst this;rfl
 refine⟨v,s,B,p,d,λu x j hj=>(f u x).1.2 j hj,λu x=>(f u x).2,λt q C u x=>?_,λt o c e k n=>?_,w,λu x=>(g u x).1.1,λu x=>(g u x).1.2,λu x o c e k n=>?_⟩
 .have y:t<l.length:=by rw[<-p];exact (pY.1 q).1
  rcases r t y with (h|h)|h
  .rw[rN,q] at h;cases h
  .exact absurd h C
  exact h u x
 .have y:=(qp.1 c).1;have:=D t y e ZGO;rcases this with h|⟨h,m⟩
  .rw[n] at h;cases h
  exact⟨h,λi=>by rcases m with m|m<;>simp_all⟩
 have:=(g u x).2 e ZGO;rcases this with (h|h)|h
 .rw[n] at h;cases h
 .exact .inl h
 exact .inr h
def T5:∀{vs:List<|NU Λ},(vs.map NU.ix).Nodup->∀{u v:NU Λ},u∈vs->v∈vs->u.ix=v.ix->u=v
 |[],_,_,_,h,_,_=>wU
 |x::vs,hn,u,v,hu,hv,e=>by
  have y:x.ix∉vs.map NU.ix/\(vs.map NU.ix).Nodup:=ss.1 hn
  rcases pj.1 hu with z|z<;>rcases pj.1 hv with h2|h2
  .rw[z,h2]
  .exact absurd (qj.2 ⟨v,h2,by rw[<-e,z]⟩) y.1
  .exact absurd (qj.2 ⟨u,z,by rw[e,h2]⟩) y.1
  .exact T5 y.2 z h2 e
def He:∀{us vs:List<|NU Λ},(us.map NU.ix).Nodup->(∀u∈us,u∈vs)->∃rest,vs.Perm (us++rest)
 |[],vs,_,_=>⟨vs,sU _⟩
 |u::us,vs,hn,hs=>by
  have x:u.ix∉us.map NU.ix/\(us.map NU.ix).Nodup:=ss.1 hn
  obtain⟨s,t,rfl⟩:=List.append_of_mem<|hs u<|rW ..
  obtain⟨r,z⟩:=He (vs:=s++t) x.2 (λv y=>by
   have a:=hs v<|sr _ y
   rcases rB.1 a with h|h
   .exact qh _ h
   .rcases pj.1 h with rfl|h
    .exact absurd (qj.2 ⟨_,y,rfl⟩) x.1
    .exact sw _ h)
  exact⟨r,sQ.trans<|z.cons u⟩
def T6 {us vs:List<|NU Λ} (x:(us.map NU.ix).Nodup) (y:∀u∈us,u∈vs) (z:vs.length<=us.length):us.Perm vs:=by
 obtain⟨r,h⟩:=He x y;have:=h.length_eq;rw[pK] at this;have:r=[]:=pR J;subst this;rw[sG] at h;exact h.symm
def XjF {U1 U2:List<|NU Λ} [Inhabited Λ] (hB:Fu Q) (C:Xc6 l L0 U1 U2 U A0) (hU:U=U1++U2) (hS:∀F w,St w0 D (F++Hb) w->S w) (z1:∀u∈U1,XaI P n L0 Q l w0 D Hb U u) (z4:∀u∈U2,XaJ P n L0 l S U u)
 (y2:∀σ,(∀u∈U,u.F σ)->Pre n (U.map (NU.V · σ)++L0) (St w0 D (U.flatMap (NU.H · σ)++Hb)) (wpAnyH P .any l.toArray Q S k<|SB A0 U)) :
 ∀(m:Nat) (done:List<|NU Λ),m+done.length=U.length->(∀u∈done,u∈U)->(done.map NU.ix).Nodup->(∀v∈done,∀j∈v.dp,j∈done.map NU.ix)->EO .any l.toArray (SB A0 done) ->
  ∀a w (σ:Nat->Λ),(∀u∈done,u.F σ)->Know n (done.map (NU.V · σ)++L0) a->St w0 D (done.flatMap (NU.H · σ)++Hb) w->wpAnyH P .any l.toArray Q S (m+k) (SB A0 done) a w:=by
 have A:∀(us:List<|NU Λ) (σ:Nat->Λ),(us.map (NU.V · σ)).map Prod.fst=us.map NU.sl:=λus σ=>by rw[rG];rfl
 have h5:∀us:List<|NU Λ,(us.map NU.ix).Nodup->(∀u∈us,u∈U)->(us.map NU.sl).Nodup:=λus f E=>by
  obtain⟨r,hr⟩:=He f E;have:=(hr.map NU.sl).nodup_iff.1 C.ns;rw[qR] at this;exact (su.1 this).1
 intro m
 induction m with
 |zero =>
  intro done hm g M _ _ a w σ hF hK Z;have hp:=T6 M g A1;rw[XgK A0 (us:=done) (vs:=U)<|λi=>(hp.map NU.ix).mem_iff,qK];refine y2 σ (λu q=>hF u<|hp.mem_iff.2 q) a w (hK.sub<|λi v y=>?_)<|Z.perm<|(hp.flatMap_right _).append_right Hb;rw[EV] at y ⊢;cases f:look (U.map (NU.V · σ)) i with
  |some u =>
   rw[f] at y;cases y
   rw[Qf nX<|(hp.map _).mem_iff.2<|Ha f]
  |none =>
   rw[f] at y;rw[XaG<|λJ=>?_]
   .exact y
   rw[A] at J;have:=C.l0 _<|Ha y;exact this ((hp.map _).mem_iff.1 J)
 |succ m ih =>
  intro done hm g M y5 h9 a w σ hF hK Z
  have L:∀i,(SB A0 done).getD i true=false↔A0[i]?=some false/\i∉done.map NU.ix:=λi=>by
   rw[rN,HK];by_cases f:i∈done.map NU.ix
   .by_cases E:i<A0.size
    .simp[f,E]
    rw[pQ<|λh=>E h.2];simp[qN<|Nat.le_of_not_lt E]
   rw[pQ<|λh=>f h.1];cases A0[i]? with
   |none=>simp
   |some b=>cases b<;>simp[f]
  have h3:∀i,i∈U.map NU.ix->(SB A0 done).getD i false=true->i∈done.map NU.ix:=λi hi h=>by
   obtain⟨u,q,rfl⟩:=qj.1 hi;have h0:=C.un u q;rw[rN,HK] at h;by_cases f:u.ix∈done.map NU.ix
   .exact f
   rw[pQ<|λh=>f h.1,h0] at h;cases h
  have h6:∃u∈U,u.ix∉done.map NU.ix:=tY (λhn=>by
   have f:∀u∈U,u∈done:=λu q=>by
    obtain⟨v,y,e⟩:=qj.1 (tY (λh=>hn ⟨u,q,h⟩):u.ix∈done.map NU.ix);exact T5 C.ni (g v y) q e▸y
   obtain⟨r,hr⟩:=He C.ni f;have:=hr.length_eq
   rw[pK] at this;omega)
  have z6:Region.ready .any l.toArray (SB A0 done)≠[]:=λh0=>by
   have key:∀t,(SB A0 done).getD t true=false->False:=by
    intro t
    induction t using Nat.strongRecOn with
    |_ t iht =>
     intro ht;have z5:=(L t).1 ht;have y8:t<l.length:=by rw[<-C.sz];exact (pY.1 z5.1).1
     have hr:t∈Region.ready .any l.toArray (SB A0 done):=mem_ready.2 ⟨ht,l[t],by rw[rj];exact pE y8,λe he hb=>by
      have ho:=C.ord t _ (pE y8) e he hb;have E:(SB A0 done).getD e.on true≠false:=λh=>iht e.on ho.1 h
      have a3:e.on<(SB A0 done).size:=by rw[M7,C.sz];omega
      rw[rN,s8 a3] at E ⊢
      simpa using E⟩
     rw[h0] at hr;cases hr
   obtain⟨u,q,p⟩:=h6;exact key u.ix<|(L u.ix).2 ⟨C.un u q,p⟩
  have y4:∀j,j∈done.map NU.ix->(SB A0 done)[j]?=some true:=λj hj=>by
   obtain⟨v,y,e⟩:=qj.1 hj;have h0:=C.un v<|g v y;rw[e] at h0;rw[HK,pN ⟨hj,(pY.1 h0).1⟩]
  have X:∀j (b:Bool),A0.getD j b=true->(SB A0 done).getD j b=true:=λj b hj=>by
   rw[rN] at hj ⊢;rw[HK];split
   .rfl
   exact hj
  have s:∀u:NU Λ,(∀j∈u.dp,j∈done.map NU.ix)->∀v∈u.deps U,v∈done/\v.ix∈u.dp:=λu d v y=>by
   obtain⟨j,hj,hf⟩:=List.mem_filterMap.1 y;have z8:=List.mem_of_find?_eq_some hf;have Y:v.ix=j:=by have:=List.find?_some hf;simpa using this
   obtain⟨v',O,e⟩:=qj.1<|d j hj
   have:v'=v:=by
    have f:=g v' O;exact T5 C.ni f z8<|e.trans Y.symm
   subst this;exact⟨O,Y▸hj⟩
  have h4:∀(us:List<|NU Λ) i v,(∀x∈us,x∈U)->look L0 i=some v->look (us.map (NU.V · σ)) i=none:=λus i v hs y=>XaG (λJ=>by
   rw[A] at J;obtain⟨x,hx,e⟩:=qj.1 J
   exact C.l0 _ (Ha y)<|qj.2 ⟨x,hs x hx,e⟩)
  have x2:∀u:NU Λ,(∀j∈u.dp,j∈done.map NU.ix)->Know n ((u.deps U).map (NU.V · σ)++(L0++(done.map (NU.V · σ)++L0))) a:=λu d=>hK.sub (λi v y=>by
   rw[EV] at y;cases f:look ((u.deps U).map (NU.V · σ)) i with
   |some z =>
    rw[f] at y
    have E:look (done.map (NU.V · σ)) i=some z:=Qf nX (by
     obtain⟨v',O,e⟩:=qj.1<|Ha f
     exact qj.2 ⟨v',(s u d v' O).1,e⟩)
    rw[EV,E];exact y
   |none =>
    rw[f,EV] at y;cases E:look L0 i with
    |some z =>
     rw[E] at y;rw[EV,h4 done i z g E,E];exact y
    |none=>rw[E] at y;exact y)
  have x1:∀u∈U,u.ix∉done.map NU.ix->(∀j∈u.dp,j∈done.map NU.ix)->EO .any l.toArray ((SB A0 done).setIfInBounds u.ix true)->∀(x:Λ),u.pf (x::u.dp.map σ)->∀a' w',Know n ((u.sl,u.vl<|x::u.dp.map σ)::(done.map (NU.V · σ)++L0)) a'->St w0 D (u.hn (x::u.dp.map σ)++(done.flatMap (NU.H · σ)++Hb)) w'->wpAnyH P .any l.toArray Q S (m+k) ((SB A0 done).setIfInBounds u.ix true) a' w':=by
   intro u q p d y1 x hx a' w' x3 K
   let σ':Nat->Λ:=λj=>if j=u.ix then x else σ j
   have x6:∀v∈done,v.ls σ'=v.ls σ:=λv y=>by
    unfold NU.ls;refine List.map_congr_left<|λj hj=>?_
    have:j≠u.ix:=λe=>by
     subst e;rcases pj.1 hj with e|hj
     .exact p<|qj.2 ⟨v,y,e.symm⟩
     exact p<|y5 v y _ hj
    show (if j=u.ix then x else σ j)=σ j
    rw[pQ this]
   have x5:u.ls σ'=x::u.dp.map σ:=by
    unfold NU.ls;rw[qG];have f:σ' u.ix=x:=pN rfl;rw[f];refine congrArg _<|List.map_congr_left<|λj hj=>?_
    have:j≠u.ix:=λe=>by subst e;exact p<|d _ hj
    exact pQ this
   have eV:∀v∈done,v.V σ'=v.V σ:=λv y=>by unfold NU.V;rw[x6 v y]
   have eH:∀v∈done,v.H σ'=v.H σ:=λv y=>by unfold NU.H;rw[x6 v y]
   have a4:u.V σ'=(u.sl,u.vl<|x::u.dp.map σ):=by unfold NU.V;rw[x5]
   have z2:u.H σ'=u.hn (x::u.dp.map σ):=by unfold NU.H;rw[x5]
   have y7:done.map (NU.V · σ')=done.map (NU.V · σ):=List.map_congr_left eV
   have a8:done.flatMap (NU.H · σ')=done.flatMap (NU.H · σ):=by
    rw[List.flatMap_def,List.flatMap_def,List.map_congr_left<|λv y=>eH v y]
   refine ih (u::done) (by rw[pz];omega) (λv y=>?_) (ss.2 ⟨p,M⟩) (λv y j hj=>?_) y1 a' w' σ' (λv y=>?_) ?_ ?_
   .rcases pj.1 y with rfl|y
    .exact q
    exact g v y
   .rcases pj.1 y with rfl|y
    .exact sr _<|d j hj
    exact sr _<|y5 v y j hj
   .rcases pj.1 y with rfl|y
    .unfold NU.F;rw[x5];exact hx
    unfold NU.F;rw[x6 v y];exact hF v y
   .rw[qG,y7,a4,pt];exact x3
   rw[List.flatMap_cons,z2,a8,qQ];exact K
  by_cases hA:∃u∈U2,u.ix∉done.map NU.ix/\∀j∈u.dp,j∈done.map NU.ix
  .obtain⟨u,G,p,d⟩:=hA;have q:u∈U:=by rw[hU];exact sw _ G
   obtain⟨a5,z9,y6,o,ho,hg,hd,hq⟩:=z4 u G
   have Qr:u.ix∈Region.ready .any l.toArray (SB A0 done):=mem_ready.2 ⟨(L u.ix).2 ⟨C.un u q,p⟩,o,by rw[rj];exact ho,λe he hb=>by
    rcases C.af u G o ho e he hb with h|h
    .exact X _ _ h
    rw[rN,y4 _<|d _ h];rfl⟩
   have x4:=XgJ (B:=SB A0 done) (λj hj=>by
    rcases Xb5 _ _ _ hj with h|h
    .rw[rN,y4 _<|d _ h];rfl
    exact X _ _ h)<|C.fr u G
   have hw:Region.wanted o (yielded l.toArray a.tmps)=true:=by unfold Region.wanted;rw[hg]
   rw[show m+1+k=(m+k)+1 by omega];refine wpAnyH_take (by rw[rj];exact ho) C.ns2 x4 (by simpa using Qr) (λc a w h=>hB c a _ _ w h) (Or.inl ⟨hw,λw' a1=>hq σ (done.map (NU.V · σ)++L0) (λv y=>hF v (s u d v y).1) a w' (x2 u d) a1⟩) (hS _ w Z) ?_;rw[hd];exact x1 u q p d (CA h9 Qr) (σ u.ix) (z9 _) _ _ (hK.put _ y6)<|by rw[a5];exact Z
  have h8:∃u∈U1,u.ix∉done.map NU.ix:=tY (λy9=>by
   have key:∀(N:Nat) (u:NU Λ),u∈U2->u.ix=N->u.ix∉done.map NU.ix->False:=by
    intro N
    induction N using Nat.strongRecOn with
    |_ N ihN =>
     intro u G hN p;refine hA ⟨u,G,p,λj hj=>tY<|λy3=>?_⟩;have q:u∈U:=by rw[hU];exact sw _ G
     obtain⟨v,y,e⟩:=qj.1 (C.dp u q j hj).1;rw[hU] at y;rcases rB.1 y with y|y
     .exact y9 ⟨v,y,by rw[e];exact y3⟩
     exact ihN j (by rw[<-hN];exact C.lt u G j hj) v y e<|by rw[e];exact y3
   obtain⟨u,q,p⟩:=h6;have R:=q;rw[hU] at R;rcases rB.1 R with R|R
   .exact y9 ⟨u,R,p⟩
   exact key u.ix u R rfl p)
  rw[show m+1+k=(m+k)+1 by omega];refine⟨λh=>absurd h z6,λi hi=>?_⟩;obtain⟨z3,o,ho,x8⟩:=mem_ready.1 hi;have x7:=(L i).1 z3;have W:∀o',l.toArray[i]?=some o'->∀e∈o'.after,Region.binds .any e=true->(SB A0 done).getD e.on false=true:=λo' h7=>by rw[ho] at h7;cases h7;exact x8
  have z7:i∈U.map NU.ix:=tY (λhn=>by
   obtain⟨u,q,p⟩:=h8
   exact p<|h3 u.ix (qj.2 ⟨u,by rw[hU];exact qh _ q,rfl⟩)<|EP h9 _ i (C.out i x7.1 hn u q) W)
  obtain⟨u,q,rfl⟩:=qj.1 z7;have d:∀j∈u.dp,j∈done.map NU.ix:=λj hj=>h3 j (C.dp u q j hj).1<|EP h9 _ _ (C.dp u q j hj).2 W
  have a7:u∈U1:=by
   have f:=q;rw[hU] at f;rcases rB.1 f with f|f
   .exact f
   exact absurd ⟨u,f,x7.2,d⟩ hA
  obtain⟨o',h7,hg,x9⟩:=z1 u a7;rw[rj,h7] at ho;cases ho
  have a6:((u.deps U).map NU.ix).Nodup:=by
   have:(u.deps U).map NU.ix=u.dp.filter (λj=>(U.map NU.ix).contains j):=by
    unfold NU.deps;generalize u.dp=dp
    induction dp with
    |nil=>rfl
    |cons j dp ih2 =>
     rw[List.filterMap_cons,tH];cases hf:U.find? (λv=>v.ix == j) with
     |none =>
      have:(U.map NU.ix).contains j=false:=by
       rw[List.contains_eq_mem,rI];intro J;obtain⟨v,y,e⟩:=qj.1 J;have:=List.find?_eq_none.1 hf v y;simp[e] at this
      rw[this];exact ih2
     |some v =>
      have Y:v.ix=j:=by have:=List.find?_some hf;simpa using this
      have:(U.map NU.ix).contains j=true:=by
       rw[List.contains_eq_mem,rA];exact qj.2 ⟨v,List.mem_of_find?_eq_some hf,Y⟩
      rw[this,pN rfl,qG,Y,ih2]
   rw[this];exact (C.dn u q).filter _
  obtain⟨rest,T⟩:=He a6<|λv y=>(s u d v y).1
  unfold wpOp;rw[rj,h7];have a2:Region.wanted o (yielded l.toArray a.tmps)=true:=by unfold Region.wanted;rw[hg]
  simp only[a2,qX];left;refine x9 σ (done.map (NU.V · σ)++L0) (rest.flatMap (NU.H · σ)) _ (λv y=>hF v (s u d v y).1) (λx hx=>?_) a w (x2 u d)<|Z.perm ?_
  .intro a' w' x3 K;refine⟨hS (u.hn (x::u.dp.map σ)++((u.deps U).flatMap (NU.H · σ)++rest.flatMap (NU.H · σ))) w'<|K.perm ?_,x1 u q x7.2 d (CA h9 hi) x hx a' w' (x3.sub<|λi v y=>?_)<|K.perm<|List.Perm.append_left _ ?_⟩
   .rw[qQ,qQ];exact ((sV (l₁:=Hb)).append_left _).append_left _
   .simp only[look] at y ⊢;cases hb:u.sl.beq i with
    |true=>rw[hb] at y;exact y
    |false =>
     rw[hb] at y;simp only[cond_false] at y ⊢;rw[EV];cases f:look ((u.deps U).map (NU.V · σ)) i with
     |some z =>
      have E:look (done.map (NU.V · σ)) i=some z:=Qf nX (by
       obtain⟨v',O,e⟩:=qj.1<|Ha f
       exact qj.2 ⟨v',(s u d v' O).1,e⟩)
      rw[EV,E] at y;exact y
     |none =>
      rw[EV];cases E:look L0 i with
      |some z =>
       rw[EV,h4 done i z g E,E] at y;exact y
      |none=>exact y
   have f:((u.deps U).flatMap (NU.H · σ)++(Hb++rest.flatMap (NU.H · σ))).Perm ((u.deps U++rest).flatMap (NU.H · σ)++Hb):=by
    rw[List.flatMap_append,qQ];exact (sV (l₁:=Hb)).append_left _
   exact f.trans<|((T.symm).flatMap_right _).append_right Hb
  have f:((u.deps U++rest).flatMap (NU.H · σ)++Hb).Perm ((u.deps U).flatMap (NU.H · σ)++(Hb++rest.flatMap (NU.H · σ))):=by
   rw[List.flatMap_append,qQ];exact (sV (l₂:=Hb)).append_left _
  exact ((T.flatMap_right _).append_right Hb).trans f
def Ou [Inhabited Λ] (r:Fu Q) (k:Nat) (x y:List<|NU Λ) (f:Zz l L0 x y A0) (p:∀F w,St w0 D (F++Hb) w->S w) (d:∀u∈x,XaI P n L0 Q l w0 D Hb (x++y) u) (j:∀u∈y,XaJ P n L0 l S (x++y) u)
 (z:∀σ,(∀u∈x++y,u.F σ)->Pre n ((x++y).map (NU.V · σ)++L0) (St w0 D ((x++y).flatMap (NU.H · σ)++Hb)) (wpAnyH P .any l.toArray Q S k<|SB A0<|x++y)) :
 Pre n L0 (St w0 D Hb) (wpAnyH P .any l.toArray Q S (k+(x++y).length) A0):=λa w m h=>by
 have g:=XhB rfl f
 rw[rp k]
 exact XjF r g rfl p d j z (x++y).length [] rfl uQ sh uQ (λt o c i e q s=>(g.ord t o (by rw[rj] at c;exact c) e q s).2 (by
  rw[rN] at i ⊢
  cases hx:A0[t]? with
  |none =>
   have v:=(qp.1<|by rw[rj] at c;exact c).1
   rw[Array.getElem?_eq_none_iff,g.sz] at hx;omega
  |some b=>rw[show (SB A0 [])[t]?=A0[t]? from rfl,hx] at i;exact i)) a w (λ_=>default) uQ m h
end par
end Go.Sep
namespace Go.Proofs.YtloldofjddbjoaaGreat
open Go.Sep Go.RowKit Tryz
variable {α:Type} {w:d7} {l:cp} {s:Sv} {i c:Nat} {vp va u1 u2 u3:d0} {a1 a2 a3:ResultVar} {m:Ms} {nc:NV}
abbrev Lt:=d0×Nat×List Sv
instance:Inhabited Lt:=⟨(.bool false,0,[])⟩
abbrev lv (l:List Lt) (k:Nat):d0:=(l.getD k default).1
abbrev lb (l:List Lt) (k:Nat):Nat:=(l.getD k default).2.1
abbrev ls (l:List Lt) (k j:Nat):Sv:=(l.getD k default).2.2.getD j sv0
def Sl:Enc Sv:=⟨1,λs=>[s.v],λ_=>rfl,λa u h=>by simp at h;subst h;rfl,by decide⟩
def VR {α:Type} (w:d7) (E:Enc α) (vs:List Sv) (ls:List<|List α):Prop:=ls.length=vs.length/\∀(i:Nat) (s:Sv) (l:List α),vs[i]?=some s->ls[i]?=some l->Ec w s.v E l
def VR.keep {w0:d7} {E:Enc α} {vs:List Sv} {ls:List<|List α} (h:VR w0 E vs ls) {H:ci} (s:St w0 [] H w):VR w E vs ls:=⟨h.1,λi x l y z=>(h.2 i x l y z).keep s j⟩
def VR.one {E:Enc α} {l:List α} (h:Ec w s.v E l):VR w E [s] [l]:=⟨rfl,λi x m y z=>by
 cases i with
 |zero=>simp at y z;subst y;subst z;exact h
 |succ i=>simp at y⟩
def VR.three {E:Enc α} {z a b:Sv} {l1 l2 l3:List α} (d:Ec w z.v E l1) (e:Ec w a.v E l2) (c:Ec w b.v E l3):VR w E [z,a,b] [l1,l2,l3]:=⟨rfl,λi x m h y=>by
 match i with
 |0=>simp at h y;subst h;subst y;exact d
 |1=>simp at h y;subst h;subst y;exact e
 |2=>simp at h y;subst h;subst y;exact c
 |i+3=>simp at h⟩
def Sv.part (s:Sv) (sz lo hi:Nat):Sv:=⟨if s.c=lo then s.a else s.a.map (·.add (lo*sz)),hi-lo,s.c-lo⟩
def XI {ls:List<|List α} {l:List α} (h:ls[i]?=some l):(ls.take<|i+1).flatten=(ls.take i).flatten++l:=by
 rw[sH,h,List.flatten_append];simp
def oU (ls:List<|List α) (i:Nat):((ls.take i).flatten).length<=ls.flatten.length:=by
 conv=>rhs;rw[<-qV i ls,List.flatten_append,pK]
 omega
section
variable {P:d8} {n:Nat} {L:Env} {X:aU} {fn:Func} {R:Ending->aU}
def Qh (h:fn.results=#[a1,a2,a3]) (b:E4 P L X a1 u1) (c:E4 P L X a2 u2) (x:E4 P L X a3 u3) (y:∀w,X w->R (.returned<|.tuple #[u1,u2,u3]) w):Pre n L X (bodyPost P fn R .ret):=λa w k z =>
 ⟨k.defers,_,by rw[F5,h];simp[Cc k z b,Cc k z c,Cc k z x],y w z⟩
def XjG {c x d:ResultVar} {y b h:d0} (e:fn.results=#[a1,a2,a3,c,x,d]) (j:E4 P L X a1 u1) (o:E4 P L X a2 u2) (f:E4 P L X a3 u3) (m:E4 P L X c y) (l:E4 P L X x b) (g:E4 P L X d h) (i:∀w,X w->R (.returned<|.tuple #[u1,u2,u3,y,b,h]) w):Pre n L X (bodyPost P fn R .ret):=λa w k z =>
 ⟨k.defers,_,by rw[F5,e];simp[Cc k z j,Cc k z o,Cc k z f,Cc k z m,Cc k z l,Cc k z g],i w z⟩
end
def M8 (vs:List Sv) (ls:List<|bf) (p:ls.flatten.length<=60000) (g:vs.length<=60000):Df prog 293 [vp] (λw=>Ec w vp Sl vs/\VR w ds vs ls) [] (λv:d0=>v) Tr (λv=>[AG v 3 ds ls.flatten]):=by
 intro w n f;obtain⟨a,b⟩:=n;have m:=b.1;refine E0 func293 I f<|Y I<|A I<|Y I<|A I<|Ad<|Y I<|r I<|Lq I (AM I YH I a.kp)<|r I<|G<|YA ?_;refine B6 (λ(i:Nat) (v:d0)=>[(3,v),(6,vp),(7,aa (vs.length:Int)),(8,aa (i:Int))]) (λ(i:Nat) (v:d0)=>St w [] [AG v 3 ds<|(ls.take i).flatten]) (λ(i:Nat) (v:d0)=>i<=vs.length) (λ(i:Nat) (v:d0)=>vs.length-i) (0) (.slice none 0 0) (qc _) (Si I) Ih<|λi v hi=>Ad ?_
 have e:=oU ls i;refine Cr I<|Lq I (Ql I)<|Ns<|B 9 I (λj=>?_)<|λj=>?_
 .obtain⟨s,c⟩:=gE vs i;obtain⟨l,d⟩:=gE ls i;have x:=XI d;have y:=oU ls<|i+1;rw[x,pK] at y;have z:=b.2 i s l c d;refine Am I<|Ah<|Ks<|Af<|Y I<|Lq I (Aw i I YH OQ I a.kp I I)<|Lq I (AO i 0 I Pq I I a.kp c I)<|A I<|Cr I<|C 2 I<|Z I<|B0 I I I KI KI CD I I I I I z.kp (by simp only[jh];omega) J<|λo=>Nh I<|AE<|HO ?_
  exact ZEe
 have k:i=vs.length:=by omega
 rw[pZ J];exact N0
def M9 (vs:List Sv) (ls:List<|List<|c3) (p:ls.flatten.length<=60000) (g:vs.length<=60000):Df prog 294 [vp] (λw=>Ec w vp Sl vs/\VR w (Kv.enc 8) vs ls) [] (λv:d0=>v) Tr (λv=>[AG v 77 (Kv.enc 8) ls.flatten]):=by
 intro w n f;obtain⟨a,b⟩:=n;have m:=b.1;refine E0 func294 I f<|Y I<|A I<|Y I<|A I<|Ad<|Y I<|r I<|Lq I (AM I YI I a.kp)<|r I<|G<|Af<|row0 77 (Kv.enc 8) none ?_;refine B6 (λ(i:Nat) (v:d0)=>[(3,v),(6,vp),(7,aa (vs.length:Int)),(8,aa (i:Int))]) (λ(i:Nat) (v:d0)=>St w [] [AG v 77 (Kv.enc 8)<|(ls.take i).flatten]) (λ(i:Nat) (v:d0)=>i<=vs.length) (λ(i:Nat) (v:d0)=>vs.length-i) (0) (.slice none 0 0) (qc _) (Si I) Ih<|λi v hi=>Ad ?_
 have e:=oU ls i;refine Cr I<|Lq I (Ql I)<|Ns<|B 9 I (λj=>?_)<|λj=>?_
 .obtain⟨s,c⟩:=gE vs i;obtain⟨l,d⟩:=gE ls i;have x:=XI d;have y:=oU ls<|i+1;rw[x,pK] at y;have z:=b.2 i s l c d;refine Am I<|Ah<|Ks<|Af<|Y I<|Lq I (Aw i I YI Eo I a.kp I I)<|Lq I (AO i 0 I H6 I I a.kp c I)<|A I<|Cr I<|C 2 I<|Z I<|B0 I I I CZ CZ KL I I I I I z.kp (by simp only[iu];omega) J<|λo=>Nh I<|AE<|HO ?_
  exact ZEe
 have k:i=vs.length:=by omega
 rw[pZ J];exact N0
def Kd (a z:Sv) (ks:bf) (ps:List<|c3) (i:Nat) (p:c3) (d:Int) (o:i<ks.length) (n:ps.length+1=ks.length) (q:ks.length<=1000):Df prog 266 [a.v,z.v,aa (i:Int),.agg p.c.toArray,aa d] (λw=>Ec w a.v ds ks/\Ec w z.v (Kv.enc 8) ps) [] (λv:d0×d0=>.tuple #[v.1,v.2]) Tr (λv=>[AG v.1 3 ds<|ks.take (i+1)++([d]++ks.drop (i+1)),AG v.2 77 (Kv.enc 8)<|ps.take i++([p]++ps.drop i)]):=by
 intro w m g;obtain⟨y,x⟩:=m;refine E0 func266 I g<|Y I<|Z I<|AT I I I I<|λk=>M p.c I<|Nh I<|A I<|Ad<|Y I<|C 3 I<|Sf 15 I J<|C 2 I<|Lq I (AM I KI I y.kp)<|C 2 I<|G<|Sf 20 I J<|Ab I<|Ah<|Kt<|Y I<|C 2 I<|Lq I (AM I CZ I x.kp)<|Lq I (mc I I I) ?_
 refine A I<|Ad<|LH 12 (aa (i:Int)) I (by first|rfl|exact congrArg (Value.int .i64) J)<|DP (λf=>Ec f a.v ds ks/\Ec f z.v (Kv.enc 8) ps/\(Ac k 77 p.c).at f) I St.drawn<|Aq 0 I (λ_ h=>⟨y.keep h A3,x.keep h A3,h.at 0 rfl⟩) uf<|Aq 1 I (λ_ h=>⟨y.keep h A3,x.keep h A3,h.at 0 rfl⟩) uf<|Aq 2 I (λ_ h=>⟨y.keep h A3,x.keep h A3,h.at 0 rfl⟩) (Qi I)<|Aq 3 I (λ_ h=>⟨y.keep h A3,x.keep h A3,h.at 0 rfl⟩) (EG (i+1) I KI Z3 I uO I I J)<|Aq 4 I (λ_ h=>⟨y.keep h A3,x.keep h A3,h.at 0 rfl⟩) uf<|Aq 6 I (λ_ h=>⟨y.keep h A3,x.keep h A3,h.at 0 rfl⟩) uf<|Aq 7 I (λ_ h=>⟨y.keep h A3,x.keep h A3,h.at 0 rfl⟩) uf<|Aq 8 I (λ_ h=>⟨y.keep h A3,x.keep h A3,h.at 0 rfl⟩) (Qi I)<|Aq 9 I (λ_ h=>⟨y.keep h A3,x.keep h A3,h.at 0 rfl⟩) (DC (i+1) I KI Z3 I uO I I J)<|Aq 12 I (λ_ h=>⟨y.keep h A3,x.keep h A3,h.at 0 rfl⟩) uf<|Aq 13 I (λ_ h=>⟨y.keep h A3,x.keep h A3,h.at 0 rfl⟩) uf<|Aq 14 I (λ_ h=>⟨y.keep h A3,x.keep h A3,h.at 0 rfl⟩) (EG i I CZ MW I wV I I J)<|Aq 15 I (λ_ h=>⟨y.keep h A3,x.keep h A3,h.at 0 rfl⟩) (AH p.c I OO MW I Va (Bq _) Nw)<|Aq 17 I (λ_ h=>⟨y.keep h A3,x.keep h A3,h.at 0 rfl⟩) uf<|Aq 18 I (λ_ h=>⟨y.keep h A3,x.keep h A3,h.at 0 rfl⟩) uf<|Aq 19 I (λ_ h=>⟨y.keep h A3,x.keep h A3,h.at 0 rfl⟩) (DC i I CZ MW I wV I I J) ?_;refine Ou (Λ:=Lt) (Bg BO) 2 [⟨5,32,[],λl=>.slice (some ⟨(lb l 0),0,none⟩) 1 1,λl=>[Ac (lb l 0) 3<|ds.flat [d]],λl=>True⟩,⟨10,37,[5],λl=>.slice (some ⟨(lb l 0),0,none⟩) 3 3,λl=>[Ac (lb l 0) 22 [(a.part 1 0<|i+1).v,(⟨some ⟨(lb l 1),0,none⟩,1,1⟩:Sv).v,(a.part 1 (i+1) ks.length).v]],λl=>True⟩,⟨11,38,[5,10],λl=>(lv l 0),λl=>[AG (lv l 0) 3 ds<|ks.take (i+1)++([d]++ks.drop (i+1))],λl=>True⟩,⟨16,43,[],λl=>.slice (some ⟨(lb l 0),0,none⟩) 1 1,λl=>[Ac (lb l 0) 77<|(Kv.enc 8).flat [p]],λl=>True⟩,⟨20,47,[16],λl=>.slice (some ⟨(lb l 0),0,none⟩) 3 3,λl=>[Ac (lb l 0) 132 [(z.part 9 0 i).v,(⟨some ⟨(lb l 1),0,none⟩,1,1⟩:Sv).v,(z.part 9 i ps.length).v]],λl=>True⟩,⟨21,48,[5,10,11,16,20],λl=>(lv l 0),λl=>[AG (lv l 0) 77 (Kv.enc 8)<|ps.take i++([p]++ps.drop i)],λl=>True⟩] [] A6 (λF f j=>by have h:=j.perm sV;exact⟨y.keep h A3,x.keep h A3,h.at 0 rfl⟩) ?_ ?_ ?_
 .refine List.forall_mem_cons.2 ⟨?_,?_⟩
  .refine⟨_,rfl,rfl,λσ R F K e h=>?_⟩;refine As (sz:=1) [.tmp 31] I I I I I KI Z3 I zeroValue3 I ?_;exact wE
  refine List.forall_mem_cons.2 ⟨?_,?_⟩
  .refine⟨_,rfl,rfl,λσ R F K e h=>?_⟩;refine As (sz:=1) [.tmp 30,.tmp 32,.tmp 36] I I I I I YH OQ I zeroValue22 I ?_;exact wE
  refine List.forall_mem_cons.2 ⟨?_,?_⟩
  .refine⟨_,rfl,rfl,λσ R F K e h=>?_⟩;exact AX (M8 [(a.part 1 0<|i+1),(⟨some ⟨(σ 5).2.1,0,none⟩,1,1⟩:Sv),(a.part 1 (i+1) ks.length)] [ks.take<|i+1,[d],ks.drop<|i+1] gg A3) I I I call293 I (λ_ h=>⟨AR kj Sl [(a.part 1 0<|i+1),(⟨some ⟨(σ 5).2.1,0,none⟩,1,1⟩:Sv),(a.part 1 (i+1) ks.length)] I rfl,VR.three (by have:=Cg (y.keep h A3) (lo:=0) (hi:=i+1) J J;rw[pU] at this;exact this) (AR wG ds [d] I I) (by have:=Cg (y.keep h A3) (lo:=i+1) (hi:=ks.length) J J;rw[pZ<|qb _] at this;exact this)⟩)<|λv _=>Ba (show _=ks.take (i+1)++([d]++ks.drop (i+1)) from by simp) Zg
  refine List.forall_mem_cons.2 ⟨?_,?_⟩
  .refine⟨_,rfl,rfl,λσ R F K e h=>?_⟩;refine As (sz:=9) [.tmp 42] I I I I I CZ MW I zeroValue77 xP ?_;exact wE
  refine List.forall_mem_cons.2 ⟨?_,?_⟩
  .refine⟨_,rfl,rfl,λσ R F K e h=>?_⟩;refine As (sz:=1) [.tmp 41,.tmp 43,.tmp 46] I I I I I YI Eo I zeroValue132 I ?_;exact wE
  refine List.forall_mem_cons.2 ⟨?_,?_⟩
  .refine⟨_,rfl,rfl,λσ R F K e h=>?_⟩;exact AX (M9 [(z.part 9 0 i),(⟨some ⟨(σ 16).2.1,0,none⟩,1,1⟩:Sv),(z.part 9 i ps.length)] [ps.take i,[p],ps.drop i] gg A3) I I I call294 I (λ_ h=>⟨AR (h.at 4 I) Sl [(z.part 9 0 i),(⟨some ⟨(σ 16).2.1,0,none⟩,1,1⟩:Sv),(z.part 9 i ps.length)] I rfl,VR.three (by have:=Cg (x.keep h A3) (lo:=0) (hi:=i) J J;rw[pU] at this;exact this) (AR Z7 (Kv.enc 8) [p] I I) (by have:=Cg (x.keep h A3) (lo:=i) (hi:=ps.length) J J;rw[pZ<|qb _] at this;exact this)⟩)<|λv _=>Ba (show _=ps.take (i)++([p]++ps.drop i) from by simp) Zg
  exact uQ
 .exact uQ
 intro σ e;exact Aq 22 I ZGf uW<|Aq 23 I ZGf uW<|An<|Kt<|Al<|Ae<|Ae<|AD<|Ae<|AD<|Ae<|AQ<|Ae<|Bw (rs:=[.tmp 10,.tmp 11]) I I<|λ_ h=>⟨((σ 11).1,(σ 21).1),rfl,T0,h⟩
def XeM (a z:Sv) (ks:bf) (ps:List<|c3) (f:ks.length=4) (j:ps.length=3):Df prog 292 [a.v,z.v] (λw=>Ec w a.v ds ks/\Ec w z.v (Kv.enc 8) ps) [] (λv:d0×d0×d0×d0=>.tuple #[v.1,v.2.1,.agg (ps.getD 1<|Na 8).c.toArray,v.2.2.1,v.2.2.2,.bool true]) Tr (λv=>[AG v.1 3 ds<|ks.take 2,AG v.2.1 77 (Kv.enc 8)<|ps.take 1,AG v.2.2.1 3 ds<|ks.drop 2,AG v.2.2.2 77 (Kv.enc 8)<|ps.drop 2]):=by
 intro w n k;obtain⟨x,y⟩:=n;obtain⟨p1,e⟩:∃p,ps[1]?=some p:=⟨_,pE J⟩
 have i:ps.getD 1 (Na 8)=p1:=by rw[sY,e];rfl
 rw[i];refine E0 func292 I k ?_;refine Y I<|C 2 I<|Z I<|Ax I I I zeroValue77<|λo=>M (Na 8).c I<|C 2 I<|A I<|Ad<|Y I<|r I<|Lq I (AM I KI I x.kp)<|C 2 I<|Sb 13 false I ZCy<|r I<|Lq I (AM I CZ I y.kp)<|r I<|Lq I (AM I KI I x.kp)<|Lq I yw<|C 2 I<|G<|Sb 20 false I ZCy<|Ab I<|Ah<|Ks<|DP (λg=>Ec g a.v ds ks/\Ec g z.v (Kv.enc 8) ps) I St.drawn ?_
 refine Aq 0 I hV uf<|Aq 1 I hV (EG 2 I KI Z3 I uO I I J)<|Aq 4 I hV uf<|Aq 5 I hV (EG 1 I CZ MW I uS I I J)<|Aq 8 I hV uf<|Aq 9 I hV (Aw 1 I CZ MW I uS I I)<|Aq 10 I hV (Bc 1 I OO MW I I uS e)<|Aq 11 I hV uf<|Aq 12 I hV (DC 2 I KI Z3 I uO I I J)<|Aq 15 I hV uf<|Aq 16 I hV (DC 2 I CZ MW I uS I I J) ?_;refine Ou (Λ:=Lt) (Bg BO) 6 [⟨2,24,[],λl=>.slice (some ⟨(lb l 0),0,none⟩) 1 1,λl=>[Ac (lb l 0) 22 [(a.part 1 0 2).v]],λl=>True⟩,⟨3,25,[2],λl=>(lv l 0),λl=>[AG (lv l 0) 3 ds<|ks.take 2],λl=>True⟩,⟨6,28,[],λl=>.slice (some ⟨(lb l 0),0,none⟩) 1 1,λl=>[Ac (lb l 0) 132 [(z.part 9 0 1).v]],λl=>True⟩,⟨7,29,[2,3,6],λl=>(lv l 0),λl=>[AG (lv l 0) 77 (Kv.enc 8)<|ps.take 1],λl=>True⟩,⟨13,35,[],λl=>.slice (some ⟨(lb l 0),0,none⟩) 1 1,λl=>[Ac (lb l 0) 22 [(a.part 1 2 ks.length).v]],λl=>True⟩,⟨14,36,[2,3,6,7,13],λl=>(lv l 0),λl=>[AG (lv l 0) 3 ds<|ks.drop 2],λl=>True⟩,⟨17,39,[],λl=>.slice (some ⟨(lb l 0),0,none⟩) 1 1,λl=>[Ac (lb l 0) 132 [(z.part 9 2 ps.length).v]],λl=>True⟩,⟨18,40,[2,3,6,7,13,14,17],λl=>(lv l 0),λl=>[AG (lv l 0) 77 (Kv.enc 8)<|ps.drop 2],λl=>True⟩] [] A6 (λF g m=>by have h:=m.perm sV;exact⟨x.keep h A3,y.keep h A3⟩) ?_ ?_ ?_
 .refine List.forall_mem_cons.2 ⟨?_,?_⟩
  .refine⟨_,rfl,rfl,λσ R F K d h=>?_⟩;refine As (sz:=1) [.tmp 23] I I I I I YH OQ I zeroValue22 I ?_;exact wE
  refine List.forall_mem_cons.2 ⟨?_,?_⟩
  .refine⟨_,rfl,rfl,λσ R F K d h=>?_⟩;exact AX (M8 [(a.part 1 0 2)] [ks.take 2] gg A3) I I I call293 I (λ_ h=>⟨AR wG Sl [(a.part 1 0 2)] I rfl,VR.one (by have:=Cg (x.keep h A3) (lo:=0) (hi:=2) J J;first|(rw[pU] at this;exact this)|(rw[pZ<|qb _] at this;exact this))⟩)<|λv _=>Ba (show _=ks.take 2 from by simp) Zg
  refine List.forall_mem_cons.2 ⟨?_,?_⟩
  .refine⟨_,rfl,rfl,λσ R F K d h=>?_⟩;refine As (sz:=1) [.tmp 27] I I I I I YI Eo I zeroValue132 I ?_;exact wE
  refine List.forall_mem_cons.2 ⟨?_,?_⟩
  .refine⟨_,rfl,rfl,λσ R F K d h=>?_⟩;exact AX (M9 [(z.part 9 0 1)] [ps.take 1] gg A3) I I I call294 I (λ_ h=>⟨AR Wj Sl [(z.part 9 0 1)] I rfl,VR.one (by have:=Cg (y.keep h A3) (lo:=0) (hi:=1) J J;first|(rw[pU] at this;exact this)|(rw[pZ<|qb _] at this;exact this))⟩)<|λv _=>Ba (show _=ps.take 1 from by simp) Zg
  refine List.forall_mem_cons.2 ⟨?_,?_⟩
  .refine⟨_,rfl,rfl,λσ R F K d h=>?_⟩;refine As (sz:=1) [.tmp 34] I I I I I YH OQ I zeroValue22 I ?_;exact wE
  refine List.forall_mem_cons.2 ⟨?_,?_⟩
  .refine⟨_,rfl,rfl,λσ R F K d h=>?_⟩;exact AX (M8 [(a.part 1 2 ks.length)] [ks.drop 2] gg A3) I I I call293 I (λ_ h=>⟨AR (h.at 4 I) Sl [(a.part 1 2 ks.length)] I rfl,VR.one (by have:=Cg (x.keep h A3) (lo:=2) (hi:=ks.length) J J;first|(rw[pU] at this;exact this)|(rw[pZ<|qb _] at this;exact this))⟩)<|λv _=>Ba (show _=ks.drop 2 from by simp) Zg
  refine List.forall_mem_cons.2 ⟨?_,?_⟩
  .refine⟨_,rfl,rfl,λσ R F K d h=>?_⟩;refine As (sz:=1) [.tmp 38] I I I I I YI Eo I zeroValue132 I ?_;exact wE
  refine List.forall_mem_cons.2 ⟨?_,?_⟩
  .refine⟨_,rfl,rfl,λσ R F K d h=>?_⟩;exact AX (M9 [(z.part 9 2 ps.length)] [ps.drop 2] gg A3) I I I call294 I (λ_ h=>⟨AR (h.at 6 I) Sl [(z.part 9 2 ps.length)] I rfl,VR.one (by have:=Cg (y.keep h A3) (lo:=2) (hi:=ps.length) J J;first|(rw[pU] at this;exact this)|(rw[pZ<|qb _] at this;exact this))⟩)<|λv _=>Ba (show _=ps.drop 2 from by simp) Zg
  exact uQ
 .exact uQ
 intro σ d;refine Aq 19 I hV uW<|Aq 20 I hV uW<|YP<|Ay 21 I<|AF I I MW I I Nw PU (by show 0+p1.c.length<=_;rw[Kv.oQ];decide)<|M p1.c (Sep.oR<|by show p1.c.length=_;rw[Kv.oQ];rfl)<|Ai hV<|Aq 22 I hV uW<|Aq 23 I hV uW<|Aq 24 I hV uW<|An<|Kt<|Al<|AD<|Ae<|AQ<|Ae<|BP<|Ae<|Cd<|Ae<|Pm [2,2,2] I ?_;exact Pm [3,3] I<|XjG I (id I) (id I) bU (id I) (id I) (id I)<|λ_ h=>⟨((σ 3).1,(σ 7).1,(σ 14).1,(σ 18).1),rfl,T0,h.drop⟩
def XaS {E:Enc α} {l:List α} {a:ce} (h:Ec w (.slice a l.length c) E l) {i m:Nat} (f:i<=m) (z:m<=l.length):Ec w (.slice (if m=i then a else a.map (λq:Addr=>q.add<|i*E.sz)) (m-i)<|m-i) E ((l.take m).drop i):=by
 obtain⟨d,c',e,g,h⟩:=h;cases e
 have x:((l.take m).drop i).length=m-i:=by rw[pJ,pI];omega
 refine⟨_,m-i,Uw,J,?_⟩;by_cases hd:m=i
 .exact .inl<|pR J
 rcases h with rfl|⟨b,off,rfl,h⟩
 .simp at z;omega
 refine .inr ⟨b,off+i*E.sz,?_,λk u y=>?_⟩
 .rw[pQ hd];simp[BT]
 rw[<-E.eY,<-E.XI,pP,pM] at y;split at y
 .have:=h _ _ y;rwa[<-qS] at this
 cases y
section
variable {P:d8} {n:Nat} {L:Env} {X:aU} {o:Oper} {α:Type} {E:Enc α} {l:List α}
def O0 {t e:d4} {x hi d:d5} {B z:d6} {i k:Int} {h:ce} {c:Nat} (j m:Nat) (H:o.op=.slice t x none (some hi) (some d)) (C:P.underlying t=some (.slice e)) (r:∀w,(sizeOf e).run P w=.ok E.sz w)
 (A:ev L x=some (.slice h l.length c)) (D:∀w,X w->Ec w (.slice h l.length c) E l) (b:ev L hi=some (.int B i)) (g:ev L d=some (.int z k)) (G:i=(j:Int)) (em:k=(m:Int)) (s:j<=m) (K:m<=l.length):MV P n L X o (.slice (if m=0 then h else h.map (λq:Addr=>q.add<|0*E.sz)) j m):=λa w y p=>by
 obtain⟨_,_,F,J,_⟩:=D w p
 cases F
 subst G;subst em
 have f:m<=c:=A1
 have u:0<=j:=qc _
 have:=MV.mk (P:=P) (n:=n) (L:=L) (X:=X) (o:=o) (v:=.slice (if m=0 then h else h.map (·.add (0*E.sz))) j m) (λa=>Instr.sliceAt t (a.eval x) none (some<|a.eval hi)<|some<|a.eval d) (λa=>by simp[execOp,H])<|λa w y _=>by
  rw[y.eval A,y.eval b,y.eval g]
  simp only[Instr.sliceAt,Instr.slice,Instr.sliceBounds,qC,Be C,qE,qD,CG (P:=P) w rfl f,CG (P:=P) w rfl s,CG (P:=P) w rfl u,r,Nat.sub_zero]
 exact this a w y p
end
abbrev GA (va:d0) (l:cp) (p:cp) (v:d0):Prop:=∀w,Ec w va Ms.enc l->Ec w v Ms.enc p
def X4 (l:cp) (ps:List<|c3) (i:Nat):Nat:=if i=0 then 0 else DH Ms.key l (ps.getD (i-1)<|Na 8)
def X3 (l:cp) (ps:List<|c3) (i:Nat):Nat:=if i<ps.length then DH Ms.key l (ps.getD i<|Na 8) else l.length
def Ed (l:cp) (ps:List<|c3) (i:Nat):cp:=(l.take<|X3 l ps i).drop<|X4 l ps i
def XjH (l:cp) (ps:List<|c3) (i:Nat):X4 l ps i<=l.length:=by unfold X4;split;exact qc _;exact I1 _ _
def XjI (l:cp) (ps:List<|c3) (i:Nat):X3 l ps i<=l.length:=by unfold X3;split;exact I1 _ _;exact qb _
def I3 (l:cp) (ps:List<|c3) (i:Nat):(Ed l ps i).length<=l.length:=by unfold Ed;rw[pJ,pI];omega
def KY:Int->cp->Nat
 |_,[]=>0
 |s,m::l=>if s+Qq m<=96 then KY (s+Qq m) l+1 else 0
def ep:∀(s:Int) (l:cp),KY s l<=l.length
 |_,[]=>qb _
 |s,m::l=>by
  have:=ep (s+Qq m) l
  unfold KY;split
  .rw[pz];omega
  .exact qc _
def et {s:Int} (h:l[i]?=some m):KY s (l.drop i)=if s+Qq m<=96 then KY (s+Qq m) (l.drop<|i+1)+1 else 0:=by
 rw[List.drop_eq_getElem?_toList_append,h];rfl
def YT (l:cp):cp:=l.take<|KY 0 l
def GB (l gone:cp):cp:=l.filter<|λm=>!RP Ms.key gone m.key
def T7 {g:cp} (h:l[i]?=some m):GB (l.take<|i+1) g=GB (l.take i) g++(if RP Ms.key g m.key=true then [] else [m]):=by
 unfold GB;rw[sH,h,tq];cases hg:RP Ms.key g m.key<;>simp[hg]
def XgL (l g:cp):(GB l g).length<=l.length:=tm _ _
def Ge (l:cp) (ps:List<|c3) (i:Nat) (hi:i<=ps.length) (e:Bt Ms.key l) (g:l.length<=60000) (p:ps.length<=1000):Df prog 59 [va,vp,aa (i:Int)] (λw=>Ec w va Ms.enc l/\Ec w vp (Kv.enc 8) ps) [] (λv:d0=>v) (λv=>GA va l (Ed l ps i) v) (λ_=>[]):=by
 intro w q n;obtain⟨a,z⟩:=q;obtain⟨f,d,rfl⟩:=FK a;have j:=XjH l ps i;have k:=XjI l ps i;refine E0 func59 I n<|Y I<|A I<|Y I<|r I<|Lq I (AM I BH I a.kp)<|Nh I<|A I<|Ad<|Y I<|C 3 I<|Sf 13 I J<|C 2 I<|Lq I (AM I CZ I z.kp)<|Lq I vd<|Lq I (Qz I)<|G<|Sf 18 I J<|Ab I<|Ah<|Ks<|Y I<|r I<|Lq I vd<|G ?_;refine ES (λ(u:Unit)=>[(0,.slice f l.length d),(1,vp),(2,aa (i:Int)),(8,aa (l.length:Int)),(7,aa (X4 l ps i:Int))]) (λ(u:Unit)=>St w [] []) (λ(u:Unit)=>True) ?_ ?_
 .refine B 20 I (λc=>?_) (λc=>?_)
  .obtain⟨pv,x⟩:=gE ps (i-1);have y:ps.getD (i-1) (Na 8)=pv:=by rw[sY,x];rfl
   refine Am I<|Cr I<|C 3 I<|Lq I yw<|Lq I (Aw (i-1) I CZ MW I z.kp I uF)<|Lq I (Bc (i-1) I OO MW I I z.kp x)<|Z I<|E1 (FA l pv e g) I call109 a.kp<|λ_ _=>r I<|C 3 I<|AE ?_
   exact Bf (()) trivial (Sub.cons I<|Sub.cons I<|Sub.cons I<|Sub.cons I<|Sub.RJ I (by unfold X4;rw[pQ J,y]) Sub.nil) Jx
  refine Ab I (Ah ?_);exact Bf (()) trivial (Sub.cons I<|Sub.cons I<|Sub.cons I<|Sub.cons I<|Sub.RJ I (by unfold X4;rw[pN J];rfl) Sub.nil) Jx
 intro u _;refine Ad<|Y I<|C 2 I<|Lq I (AM I CZ I z.kp)<|YD ?_;refine ES (λ(u:Unit)=>[(0,.slice f l.length d),(7,aa (X4 l ps i:Int)),(8,aa (X3 l ps i:Int))]) (λ(u:Unit)=>St w [] []) (λ(u:Unit)=>True) ?_ ?_
 .refine B 34 I (λc=>?_) (λc=>?_)
  .obtain⟨pv,x⟩:=gE ps i;have y:ps.getD i (Na 8)=pv:=by rw[sY,x];rfl
   refine Am I<|Cr I<|C 3 I<|Lq I (Aw i I CZ MW I z.kp I I)<|Lq I (Bc i I OO MW I I z.kp x)<|Z I<|E1 (FA l pv e g) I call109 a.kp<|λ_ _=>r I<|C 3 I<|AE ?_
   exact Bf (()) trivial (Sub.cons I<|Sub.cons I<|Sub.RJ I (by unfold X3;rw[pN J,y]) Sub.nil) Jx
  refine Ab I (Ah ?_);exact Bf (()) trivial (Sub.cons I<|Sub.cons I<|Sub.RJ I (by unfold X3;rw[pQ J]) Sub.nil) Jx
 intro u _;refine Ad<|Y I<|C 3 I<|G<|B 46 I (λb=>?_)<|λb=>?_
 .exact Am I<|Y I<|A I<|Al<|Ag<|Av I I<|λ_ h=>⟨C0,rfl,λr _=>by rw[show Ed l ps i=[] from pR (by unfold Ed;rw[pJ,pI];omega)];exact EC _,h⟩
 exact Ab I<|Ah<|Kt<|Y I<|C 4 I<|Lq I (JX (X4 l ps i) (X3 l ps i) (X3 l ps i) I BH Bi I a.kp I I I I I I J (qb _) J)<|A I<|Al<|Av I I<|λ_ h=>⟨_,rfl,λr o=>XaS o (i:=X4 l ps i) (m:=X3 l ps i) J J,h⟩
def LI (l:cp) (p:l.length<=60000):Df prog 289 [va] (λw=>Ec w va Ms.enc l) [] (λv:d0=>v) (λv=>GA va l (YT l) v) (λ_=>[]):=by
 intro w x e;obtain⟨k,c,rfl⟩:=FK x;refine E0 func289 I e<|Y I<|A I<|Y I<|Nh I<|A I<|Ad<|Af ?_;refine B6 (λ(i:Nat) (s:Int)=>[(0,.slice k l.length c),(3,aa (i:Int)),(4,aa s)]) (λ(i:Nat) (s:Int)=>St w [] []) (λ(i:Nat) (s:Int)=>i<=l.length/\0<=s/\s<=96/\KY 0 l=i+KY s (l.drop i)) (λ(i:Nat) (s:Int)=>l.length-i) (0) (0) ⟨qc _,Int.le_refl _,K,by rw[pU,qK]⟩ (Si I) Ih<|λi s d=>Ad<|Ad ?_
 obtain⟨hi,o,n,a⟩:=d;refine Cr I<|C 2 I<|Lq I (AM I BH I x.kp)<|C 2 I<|B 9 I (λg=>?_)<|λg=>?_
 .obtain⟨m,hm⟩:=gE l i;have b:=et (s:=s) hm;have f:=KW m;refine C 3 I<|Lq I (Aw i I BH Bi I x.kp I I)<|Lq I (Bc i I Ck Bi I I x.kp hm)<|Z I<|E1 (It m) I call306 Tt<|λ_ _=>Lq I py<|Lq I WJ<|Lq I (Qy I)<|G<|B 18 I (λy=>?_)<|λy=>?_
  .refine Am I (Ah<|Kt<|Af<|Y I<|C 3 I<|Lq I (Aw i I BH Bi I x.kp I I)<|Lq I (Bc i I Ck Bi I I x.kp hm)<|Z I<|E1 (It m) I call306 Tt<|λ_ _=>Lq I py<|A I<|gZ ?_);exact AJ ((i+1,s+Qq m)) A4 (by dsimp only;exact⟨J,J,J,by rw[a,b,pN y];omega⟩) (Si I) Jx
  have z:KY 0 l=i:=by rw[a,b,pQ y];rfl
  exact XdN
 have z:KY 0 l=i:=by rw[a,List.drop_eq_nil_of_le J];rfl
 exact C 9 I<|G XdN
def Xag {z:d0} (l g:cp) (n:Bt Ms.key g) (s:l.length<=60000) (b:g.length<=60000):Df prog 290 [va,z] (λw=>Ec w va Ms.enc l/\Ec w z Ms.enc g) [] (λv:d0=>v) Tr (λv=>[AG v 154 Ms.enc<|GB l g]):=by
 intro w o j;obtain⟨e,f⟩:=o;refine E0 func290 I j<|Cs I<|Ak I<|Cs I<|Ak I<|Ad<|Cs I<|Lm I<|Lq I (AM I BH I e.kp)<|Lm I<|Nk<|Af<|row0 154 Ms.enc none ?_;refine B6 (λ(i:Nat) (v:d0)=>[(1,z),(5,v),(10,va),(11,aa (l.length:Int)),(12,aa (i:Int))]) (λ(i:Nat) (v:d0)=>St w [] [AG v 154 Ms.enc<|GB (l.take i) g]) (λ(i:Nat) (v:d0)=>i<=l.length) (λ(i:Nat) (v:d0)=>l.length-i) (0) (.slice none 0 0) (qc _) (Si I) Ih<|λi v hi=>Cs I<|yR ?_
 refine CB 13 I (λk=>?_)<|λk=>?_
 .obtain⟨m,hm⟩:=gE l i;have x:=T7 (g:=g) hm;have d:=XgL (l.take i) g;rw[pI] at d;refine Am I<|Ah<|Ks<|Af<|Cs I<|Lq I (Aw i I BH Bi I e.kp I I)<|Lq I (Bc i I Ck Bi I I e.kp hm)<|LW I<|Ax I I I zeroValue154<|λr=>LW I<|AF I I Bi I I OM RZ (by show 0+m.c.length<=_;rw[Ms.oQ];decide)<|Ce m.c (Sep.oR<|by show m.c.length=_;rw[Ms.oQ];rfl)<|Nk<|Cs I<|Lm I<|EJ BR I MW I<|Lq I xy<|LW I<|E1 (FA g m.key n b) I call109 f.kp<|λ_ _=>Lm I<|Mv 3 I<|Ak I<|Cs I<|Mv 2 I<|Nk<|CB 24 I (λy=>?_)<|λy=>?_
  .rw[pQ Zi] at x;refine Am I<|Cr I<|Lm I<|Lq I xT<|LW I<|As (sz:=29) [.tmp 26] I I I I I BH Bi I zeroValue154 uM<|λq=>AQ<|LW I<|Ap BH BH DL I (λ_ h=>AR kj Ms.enc [m] I I) A8<|λp=>Ba (x.symm)<|AD<|Ae<|Nh I<|AE<|wA ?_
   exact oD
  rw[pN y,sG] at x;refine WG ?_;exact AJ ((i+1,v)) A4 A4 (Si I)<|λ_ h=>by dsimp only;rw[x];exact h
 have a:i=l.length:=by omega
 subst a;rw[pZ<|qb _];exact N0
def BG (c:Nd) (l:cp):Nd:=if c.leaf=true then {c with es:=BZ c.es l} else {c with msgs:=GS c.msgs l}
def MJ (p:Nd) (i:Nat):cp:=YT<|Ed p.msgs p.piv i
def Bz (p:Nd) (i:Nat):Nd:={p with msgs:=GB p.msgs<|MJ p i}
def Ef (c:Nd) (s:N4) (x:Sv):N4:=if c.leaf=true then⟨x,s.k,s.p,s.m⟩ else⟨s.e,s.k,s.p,x⟩
def XiU (l:cp):(YT l).length<=l.length:=by unfold YT;rw[pI];omega
def Xal (p:Nd) (i:Nat):(MJ p i).length<=p.msgs.length:=qM (XiU _)<|I3 _ _ _
def IC (c:Nd) (l:cp):Prop:=if c.leaf=true then J9 c.es l else KX c.msgs l
def ew (h:l≠[]):0<l.length:=sM.2 h
def Xah (x nc:NV) (i:Nat) (B:nc.d.leaf) (hi:i<=x.d.piv.length) (J:Bt Ms.key x.d.msgs) (f:Bt Ms.key<|MJ x.d i) (g:J9 nc.d.es<|MJ x.d i) (o:MJ x.d i≠[]) (C:x.d.Sm 1000) (u:nc.d.Sm 1000):Df prog 260 [.agg x.c.toArray,.agg nc.c.toArray,aa (i:Int)] (λw=>OE w x/\OE w nc) [] (λb:Sv×Sv=>.tuple #[.agg (⟨⟨x.s.e,x.s.k,x.s.p,b.1⟩,Bz x.d i⟩:NV).c.toArray,.agg (⟨⟨b.2,nc.s.k,nc.s.p,nc.s.m⟩,{nc.d with es:=BZ nc.d.es<|MJ x.d i}⟩:NV).c.toArray,aa ((MJ x.d i).length:Int)]) Tr (λb=>[C5 b.1 (Bz x.d i).msgs,Ct b.2<|BZ nc.d.es<|MJ x.d i]):=by
 intro w K E;obtain⟨y,L⟩:=K;obtain⟨l,q⟩:∃l,l=MJ x.d i:=⟨_,rfl⟩
 rw[<-q] at g f o;have G:l.length<=x.d.msgs.length:=by rw[q];exact Xal _ _
 obtain⟨P,X,S,Q⟩:=C;obtain⟨T,t2,V,W⟩:=u;refine E0 func260 I E<|Y I<|Z I<|AT I I I I<|λH=>Ce x.c I<|Z I<|AT I I I I<|λN=>Ce nc.c I<|Z I<|Ax I I I zeroValue135<|λR=>Ce NZ.c I<|Z I<|Ax I I I zeroValue135<|λU=>Ce NZ.c I<|ZIJ ?_
 intro va n;have F:=I3 x.d.msgs x.d.piv i;refine Z I<|E1 (LI (Ed x.d.msgs x.d.piv i) A1) I call289 (λ_ h=>n _<|y.m.keep h A3)<|λD A=>Ak I<|Y I<|EJ Bj I DS I<|Lo Fy 3 I<|Lm I ?_
 have a:∀z,Ec z x.s.m.v Ms.enc x.d.msgs->Ec z D Ms.enc l:=λz t=>by rw[q];exact A z<|n z t
 refine Z I<|AX (Xag x.d.msgs l f A1 A1) I I I call290 I ZGp<|λY _=>EJ Bj I DS I<|Ux ?_
 rintro⟨r,rfl⟩;refine Cd<|Z I<|AB I I DS I I I Yj<|Ce (⟨⟨x.s.e,x.s.k,x.s.p,r⟩,{x.d with msgs:=GB x.d.msgs l}⟩:NV).c I<|Ns<|LZ [0,1,4,5,7,8,2,3,6,9,10,11] 440316 (λz=>(Ac H 135 (⟨⟨x.s.e,x.s.k,x.s.p,r⟩,{x.d with msgs:=GB x.d.msgs l}⟩:NV).c).at z/\(Ac N 135 nc.c).at z/\Ec z D Ms.enc l) I St.drawn (λ_ h=>⟨h.at 0 rfl,h.at 4 rfl,a _<|y.m.keep h A3⟩)<|Dq I (AH ((⟨⟨x.s.e,x.s.k,x.s.p,r⟩,{x.d with msgs:=GB x.d.msgs l}⟩:NV).c) I AV AK I uO (I)<|I)<|Dq I (AH nc.c I AV AK I wV (I)<|I)<|Dq I (AH nc.c I AV AK I wV (I)<|I)<|Md 2 I<|Dq I (AM I BH I<|λ_ h=>h.2.2)<|MX I<|E1 (Fz nc B) I call270 Tt<|λ_ _=>Ai (λ_ h=>⟨h.at 0 rfl,h.at 4 rfl,a _<|y.m.keep h A3⟩)<|Dq I yH<|MX I<|Cf (DN nc l g A1) I I I I call297 I ZH8 ?_
 exact hY
def So (x nc:NV) (i:Nat) (B:nc.d.leaf=false) (hi:i<=x.d.piv.length) (J:Bt Ms.key x.d.msgs) (f:Bt Ms.key<|MJ x.d i) (g:KX nc.d.msgs<|MJ x.d i) (o:MJ x.d i≠[]) (C:x.d.Sm 1000) (u:nc.d.Sm 1000):Df prog 260 [.agg x.c.toArray,.agg nc.c.toArray,aa (i:Int)] (λw=>OE w x/\OE w nc) [] (λb:Sv×Sv=>.tuple #[.agg (⟨⟨x.s.e,x.s.k,x.s.p,b.1⟩,Bz x.d i⟩:NV).c.toArray,.agg (⟨⟨nc.s.e,nc.s.k,nc.s.p,b.2⟩,{nc.d with msgs:=GS nc.d.msgs<|MJ x.d i}⟩:NV).c.toArray,aa ((MJ x.d i).length:Int)]) Tr (λb=>[C5 b.1 (Bz x.d i).msgs,C5 b.2<|GS nc.d.msgs<|MJ x.d i]):=by
 intro w K E;obtain⟨y,L⟩:=K;obtain⟨l,q⟩:∃l,l=MJ x.d i:=⟨_,rfl⟩
 rw[<-q] at g f o;have G:l.length<=x.d.msgs.length:=by rw[q];exact Xal _ _
 obtain⟨P,X,S,Q⟩:=C;obtain⟨T,t2,V,W⟩:=u;refine E0 func260 I E<|Y I<|Z I<|AT I I I I<|λH=>Ce x.c I<|Z I<|AT I I I I<|λN=>Ce nc.c I<|Z I<|Ax I I I zeroValue135<|λR=>Ce NZ.c I<|Z I<|Ax I I I zeroValue135<|λU=>Ce NZ.c I<|ZIJ ?_
 intro va n;have F:=I3 x.d.msgs x.d.piv i;refine Z I<|E1 (LI (Ed x.d.msgs x.d.piv i) A1) I call289 (λ_ h=>n _<|y.m.keep h A3)<|λD A=>Ak I<|Y I<|EJ Bj I DS I<|Lo Fy 3 I<|Lm I ?_
 have a:∀z,Ec z x.s.m.v Ms.enc x.d.msgs->Ec z D Ms.enc l:=λz t=>by rw[q];exact A z<|n z t
 refine Z I<|AX (Xag x.d.msgs l f A1 A1) I I I call290 I ZGp<|λY _=>EJ Bj I DS I<|Ux ?_
 rintro⟨r,rfl⟩;refine Cd<|Z I<|AB I I DS I I I Yj<|Ce (⟨⟨x.s.e,x.s.k,x.s.p,r⟩,{x.d with msgs:=GB x.d.msgs l}⟩:NV).c I<|Ns<|LZ [0,1,4,5,7,8,2,3,6,9,10,11] 440316 (λz=>(Ac H 135 (⟨⟨x.s.e,x.s.k,x.s.p,r⟩,{x.d with msgs:=GB x.d.msgs l}⟩:NV).c).at z/\(Ac N 135 nc.c).at z/\Ec z D Ms.enc l) I St.drawn (λ_ h=>⟨h.at 0 rfl,h.at 4 rfl,a _<|y.m.keep h A3⟩)<|Dq I (AH ((⟨⟨x.s.e,x.s.k,x.s.p,r⟩,{x.d with msgs:=GB x.d.msgs l}⟩:NV).c) I AV AK I uO (I)<|I)<|Dq I (AH nc.c I AV AK I wV (I)<|I)<|Dq I (AH nc.c I AV AK I wV (I)<|I)<|Md 2 I<|Dq I (AM I BH I<|λ_ h=>h.2.2)<|MX I<|E1 (Fe nc B) I call270 Tt<|λ_ _=>Ai (λ_ h=>⟨h.at 0 rfl,h.at 4 rfl,a _<|y.m.keep h A3⟩)<|Dq I yH<|MX I<|Cf (Dr nc l g A1) I I I I call296 I ZH8 ?_
 exact hY
def Ke (c:Nd) (s:Sv) (l:cp):Nr:=if c.leaf=true then Ct s (BZ c.es l) else C5 s (GS c.msgs l)
def ey (h:OE w nc) (x:(Ke nc.d s l).at w):OE w ⟨Ef nc.d nc.s s,BG nc.d l⟩:=by
 unfold Ke at x;unfold Ef BG;cases hl:nc.d.leaf with
 |true=>rw[hl] at x;simp only[qX] at x ⊢;exact⟨BA x,h.k,h.p,h.m⟩
 |false=>rw[hl] at x;simp only[r5,r9] at x ⊢;exact⟨h.e,h.k,h.p,BA x⟩
def Xcm:(⟨Ef nc.d nc.s s,BG nc.d l⟩:NV).c=if nc.d.leaf=true then (⟨⟨s,nc.s.k,nc.s.p,nc.s.m⟩,{nc.d with es:=BZ nc.d.es l}⟩:NV).c else (⟨⟨nc.s.e,nc.s.k,nc.s.p,s⟩,{nc.d with msgs:=GS nc.d.msgs l}⟩:NV).c:=by
 unfold Ef BG;cases hl:nc.d.leaf<;>simp[hl]
def T8 (h nc:NV) (i:Nat) (hi:i<=h.d.piv.length) (m:Bt Ms.key h.d.msgs) (f:Bt Ms.key<|MJ h.d i) (x:IC nc.d<|MJ h.d i) (z:MJ h.d i≠[]) (a:h.d.Sm 1000) (y:nc.d.Sm 1000):Df prog 260 [.agg h.c.toArray,.agg nc.c.toArray,aa (i:Int)] (λw=>OE w h/\OE w nc) [] (λb:Sv×Sv=>.tuple #[.agg (⟨⟨h.s.e,h.s.k,h.s.p,b.1⟩,Bz h.d i⟩:NV).c.toArray,.agg (⟨Ef nc.d nc.s b.2,BG nc.d<|MJ h.d i⟩:NV).c.toArray,aa ((MJ h.d i).length:Int)]) Tr (λb=>[C5 b.1 (Bz h.d i).msgs,Ke nc.d b.2<|MJ h.d i]):=by
 unfold IC at x;cases hl:nc.d.leaf with
 |true =>
  rw[hl] at x;simp only[qX] at x;refine λw j l=>(Xah h nc i hl hi m f x z a y w j l).mono<|λe w' ⟨b,h1,_,h3⟩=>⟨b,?_,T0,?_⟩
  .rw[h1];dsimp only;rw[Xcm,pN hl]
  unfold Ke;dsimp only;rw[pN hl];exact h3
 |false =>
  rw[hl] at x;simp only[r5,r9] at x;have g:¬nc.d.leaf=true:=jH;refine λw j l=>(So h nc i hl hi m f x z a y w j l).mono<|λe w' ⟨b,h1,_,h3⟩=>⟨b,?_,T0,?_⟩
  .rw[h1];dsimp only;rw[Xcm,pQ g]
  unfold Ke;dsimp only;rw[pQ g];exact h3
def Xai (x nc:NV) (i:Nat) (hi:i<=x.d.piv.length) (C:Bt Ms.key x.d.msgs) (g:Bt Ms.key<|MJ x.d i) (j:IC nc.d<|MJ x.d i) (a:MJ x.d i≠[]) (o:x.d.Sm 1000) (l:nc.d.Sm 1000) (y:x.d.leaf=false) (E:i<x.d.kids.length) (m:(BG nc.d<|MJ x.d i).Sm 50000):Df prog 202 [.agg x.c.toArray,.agg nc.c.toArray,aa (i:Int)] (λw=>OE w x/\OE w nc) [] (λb:Sv×Sv=>if BJ (BG nc.d<|MJ x.d i)=true then .tuple #[.agg (⟨⟨x.s.e,x.s.k,x.s.p,b.1⟩,Bz x.d i⟩:NV).c.toArray,.agg (⟨Ef nc.d nc.s b.2,BG nc.d<|MJ x.d i⟩:NV).c.toArray,.bool true] else .tuple #[.agg x.c.toArray,.agg nc.c.toArray,.bool false]) Tr (λb=>[C5 b.1 (Bz x.d i).msgs,Ke nc.d b.2<|MJ x.d i]):=by
 intro w D v;obtain⟨r,t⟩:=D;refine E0 func202 I v ?_;refine Cs I<|LW I<|AT I I I I<|λA=>Ce x.c I<|LW I<|AT I I I I<|λF=>Ce nc.c I<|LW I<|Ax I I I zeroValue135<|λG=>Ce NZ.c I<|LW I<|Ax I I I zeroValue135<|λH=>Ce NZ.c I<|Ak I<|Ad<|Cs I<|EJ Bj I Z4 I<|Lo G4 3 I<|Lm I<|Sb 14 false I (y)<|Mv 4 I<|Sb 18 false I (by first|rfl|exact sS A1)<|Lm I<|EJ Bj I OQ I<|Lo Pq 3 I<|Lq I (AM I KI I r.k.kp)<|Mv 2 I<|Nk<|Sb 24 false I (by first|rfl|exact sS A1)<|Ab I<|Ah<|Kt ?_
 refine Cs I<|Lq I (Cq x.c AV AK 3 I (I)<|I)<|Lq I (Cq nc.c AV AK 2 I (I)<|I)<|Lm I<|LW I<|DD (T8 x nc i hi C g j a o l) I I I call260 I (λ_ h=>⟨r.keep h,t.keep h⟩) ?_;intro ⟨f,s⟩ _;refine Mv 4 I<|LW I<|Ax I I I zeroValue135<|λu=>Ce NZ.c I<|LW I<|Ax I I I zeroValue135<|λq=>Ce NZ.c I<|AD<|LW I<|SW AK I Nc<|AD<|LW I<|SW AK I Nc<|Ak I<|Ad<|Cs I<|Mv 3 I ?_
 have B:=ew a;refine Sf 37 I A1<|Lq I (Cq ((⟨Ef nc.d nc.s s,BG nc.d<|MJ x.d i⟩:NV).c) AV AK 0 I (I)<|I)<|LW I<|E1 (HH (⟨Ef nc.d nc.s s,BG nc.d<|MJ x.d i⟩:NV) m) I call216 (λ_ h=>ey (t.keep h) Z7)<|λ_ _=>Lq I (Qt I)<|Lq I (Qz I)<|Nk<|CB 41 I (λn=>?_)<|λn=>?_
 .refine Am I (Ad<|LZ (rg 5) 225 (λz=>(Ac A 135 x.c).at z/\(Ac F 135 nc.c).at z) I St.drawn (H2 7 6 I)<|Dq I (AH x.c I AV AK I uO (I)<|I)<|Dq I (AH nc.c I AV AK I uS (I)<|I)<|B7<|MX I<|SW AK I Nc<|Ai (H2 7 6 I)<|B7<|KC I<|SW AK I Nc<|KC I<|OC I I uW<|AN<|Kt<|Al<|Ag<|Pm [1,0,2,2] I ?_);exact Qh I wW xM (id I)<|λ_ h=>⟨(f,s),by dsimp only;rw[pQ<|by rw[show BJ (BG nc.d<|MJ x.d i)=false from n];decide],T0,h.drop.drop.sublist<|tA.2<|tA.2<|sj _⟩
 refine Ab I (Ah<|Ks<|LZ (rg 5) 225 (λz=>(Ac u 135 (⟨⟨x.s.e,x.s.k,x.s.p,f⟩,Bz x.d i⟩:NV).c).at z/\(Ac q 135 (⟨Ef nc.d nc.s s,BG nc.d<|MJ x.d i⟩:NV).c).at z) I St.drawn Yv<|Dq I (AH ((⟨⟨x.s.e,x.s.k,x.s.p,f⟩,Bz x.d i⟩:NV).c) I AV AK I uO (I)<|I)<|Dq I (AH ((⟨Ef nc.d nc.s s,BG nc.d<|MJ x.d i⟩:NV).c) I AV AK I uS (I)<|I)<|B7<|MX I<|SW AK I Nc<|Ai Vy<|B7<|KC I<|SW AK I Nc<|KC I<|OC I I uW<|AN<|Kt<|Al<|Pm [1,0,2,2] I ?_);exact Qh I wW xM (id I)<|λ_ h=>⟨(f,s),by dsimp only;rw[pN<|show BJ (BG nc.d<|MJ x.d i)=true from n],T0,h.drop.drop.sublist<|tA.2<|tA.2<|sj _⟩
def CN (d:Nd):c3:=d.piv.getD 1<|Na 8
def hlA (d:Nd):Nd:=⟨false,[],d.kids.take 2,d.piv.take 1,Ed d.msgs [CN d] 0⟩
def hlB (d:Nd):Nd:=⟨false,[],d.kids.drop 2,d.piv.drop 2,Ed d.msgs [CN d] 1⟩
structure HS where
 k1:Sv
 p1:Sv
 m1:Sv
 k2:Sv
 p2:Sv
 m2:Sv
abbrev HS.A (s:HS) (d:Nd):NV:=⟨⟨sv0,s.k1,s.p1,s.m1⟩,hlA d⟩
abbrev HS.B (s:HS) (d:Nd):NV:=⟨⟨sv0,s.k2,s.p2,s.m2⟩,hlB d⟩
abbrev HS.rows (s:HS) (d:Nd):ci:=[CT s.k1<|d.kids.take 2,CU s.p1<|d.piv.take 1,CT s.k2<|d.kids.drop 2,CU s.p2<|d.piv.drop 2]
def BL (d:Nd) (i:Nat) (pv:c3) (jd:Int):Nd:={d with kids:=d.kids.take (i+1)++([jd]++d.kids.drop (i+1)),piv:=d.piv.take i++([pv]++d.piv.drop i)}
def Nf (z:NV) (i:Nat) (a:Int) (b:z.d.leaf=false) (g:z.d.kids.length<4) (f:i<z.d.kids.length) (y:V7 a) (x:SG z.d.kids a=none):Df prog 264 [.agg z.c.toArray,aa (i:Int),aa a] (λw=>OE w z) [] (λ_:Unit=>.bool true) Tr (λ_=>[]):=by
 intro w e j;refine E0 func264 I j<|Y I<|Z I<|AT I I I I<|λl=>M z.c I<|A I<|Y I<|N Bj I Z4 I<|Lo G4 0 I<|C 2 I<|Sb 10 true I (by rw[b];rfl)<|N Bj I OQ I<|Lo Pq 0 I<|Lq I (AM I KI I e.k.kp)<|C 3 I<|Sb 16 true I zD<|C 4 I<|Sb 20 true I zD<|r I<|N Bj I OQ I<|Lo Pq 0 I<|Lq I (AM I KI I e.k.kp) ?_
 exact C 3 I<|Sb 27 true I zD<|r I<|Z I<|E1 (IB a) I call269 Tt<|λ_ _=>Lq I (Qy I)<|r I<|Sb 31 true I zD<|N Bj I OQ I<|Lo Pq 0 I<|r I<|Z I<|E1 (DK z.d.kids a J) I call203 e.k.kp<|λ_ _=>Lq I (Ql I)<|Lq I (Qy I)<|A I<|Al<|Av I I<|λ_ h=>⟨(),congrArg Eb zc,T0,h.oS⟩