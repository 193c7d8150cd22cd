/- Part 8. -/
import Derived.Test.YtloldofjddbjoaaGreatJ7
set_option linter.all false
set_option maxHeartbeats 8000000
set_option maxRecDepth 100000
namespace Go.Proofs.YtloldofjddbjoaaGreat
open Go.Sep Go.RowKit Tryz
variable {M:Mo} {B i n m d:Nat} {t b:Int} {e tx:d4} {x:d5} {u:Bool} {l:bf} {va vb:d0} {β:Type}
def Kf (nv:NV) (D:nv.d.kids.length=4) (u:nv.d.piv.length=3) (E:Bt Ms.key nv.d.msgs) (C:nv.d.Sm 1000):Df prog 265 [.agg nv.c.toArray] (λw=>OE w nv) [] (λs:HS=>.tuple #[.agg (s.A nv.d).c.toArray,.agg (s.B nv.d).c.toArray,.agg (CN nv.d).c.toArray,.bool true]) (λs=>GA nv.s.m.v nv.d.msgs (hlA nv.d).msgs s.m1.v/\GA nv.s.m.v nv.d.msgs (hlB nv.d).msgs s.m2.v) (λs=>s.rows nv.d):=by
 intro w e G;refine E0 func265 I G<|Y I<|Z I<|AT I I I I<|λJ=>Ce nv.c I<|Z I<|Ax I I I zeroValue135<|λF=>Ce NZ.c I<|Z I<|Ax I I I zeroValue135<|λL=>Ce NZ.c I<|Z I<|Ax I I I zeroValue77<|λH=>Ce (Na 8).c I<|A I<|Ad<|Y I<|EJ Bj I OQ I<|Lo Pq 3 I<|EJ Bj I Eo I<|Lo H6 3 I<|Z I<|EH (XeM nv.s.k nv.s.p nv.d.kids nv.d.piv D u) I I I call292 I (λ_ h=>⟨e.k.keep h A3,e.p.keep h A3⟩) ?_
 rintro⟨M,P,N,Q⟩ _;refine Ux ?_;rintro⟨f,n⟩;dsimp only at n;subst n;refine Pre.fact (λ_ h=>Du<|h.rd 1 I) ?_;rintro⟨i,j⟩;dsimp only at j;subst j;refine Pre.fact (λ_ h=>Du<|h.rd 2 I) ?_;rintro⟨x,l⟩;dsimp only at l;subst l;refine Pre.fact (λ_ h=>Du<|h.rd 3 I) ?_;rintro⟨a,g⟩;dsimp only at g;subst g;refine Mv 7 I<|EJ Bj I OQ I<|C3<|Z I<|AB I I OQ I I I dB<|Ce (⟨⟨sv0,f,sv0,sv0⟩,⟨false,[],nv.d.kids.take 2,[],[]⟩⟩:NV).c I<|EJ Bj I Eo I<|Z I<|AB I I Eo I I I dF<|Ce (⟨⟨sv0,f,i,sv0⟩,⟨false,[],nv.d.kids.take 2,nv.d.piv.take 1,[]⟩⟩:NV).c I<|B7<|Z I<|AF I I MW I I Nw PU hL<|Ce ((CN nv.d)).c (Sep.oR<|by first|(simp only[Kv.oQ];done)|(show (Kv.c _).length=(Kv.c _).length;rw[Kv.oQ,Kv.oQ]))<|EJ Bj I OQ I<|C3<|Z I<|AB I I OQ I I I dB ?_;refine Ce (⟨⟨sv0,x,sv0,sv0⟩,⟨false,[],nv.d.kids.drop 2,[],[]⟩⟩:NV).c I<|EJ Bj I Eo I<|Z I<|AB I I Eo I I I dF<|Ce (⟨⟨sv0,x,a,sv0⟩,⟨false,[],nv.d.kids.drop 2,nv.d.piv.drop 2,[]⟩⟩:NV).c I<|A I<|Y I<|Mv 2 I<|Nk<|Ab I<|Ah<|Kt<|Y I<|U I (Cq ((CN nv.d).c) OO MW 1 I (Bq _) Nw)<|Z I<|As (sz:=9) [.tmp 28] I I I I I CZ MW I zeroValue77 xP<|λO=>A I<|Ad<|LZ [0,1,2,4,5,6,3,8,7,9,10,11] 519048 (λo=>(Ac J 135 nv.c).at o) I St.drawn (Ob 8 I)<|Ht Bj I DS I<|Dq I jv<|Dm I<|Ht Bj I DS I<|Dq I jv<|Dm I ?_
 have K:=C.m;refine MX I<|E1 (Ge nv.d.msgs [CN nv.d] 0 A3 E A1 A3) I call59 (λ_ h=>⟨e.m.keep h A3,AR (h.at 0 I) (Kv.enc 8) [CN nv.d] I rfl⟩)<|λva y=>Pre.fact (λ_ h=>Du<|y _<|e.m.keep h A3) ?_
 rintro⟨t,r⟩;subst r;refine Ai (Ob 8 I)<|Ht Bj I DS I<|MX I<|E1 (Ge nv.d.msgs [CN nv.d] 1 A3 E A1 A3) I call59 (λ_ h=>⟨e.m.keep h A3,AR (h.at 0 I) (Kv.enc 8) [CN nv.d] I rfl⟩)<|λva z=>Pre.fact (λ_ h=>Du<|z _<|e.m.keep h A3) ?_
 rintro⟨b,q⟩;subst q;refine Ai (Ob 8 I)<|BP<|KC I<|AB I I DS I I I Yj<|Ce (⟨⟨sv0,f,i,t⟩,hlA nv.d⟩:NV).c I<|KC I<|R I I (AU I Bj I DS I I)<|AQ<|KC I<|AB I I DS I I I Yj<|Ce (⟨⟨sv0,x,a,b⟩,hlB nv.d⟩:NV).c I<|AN<|Ks<|LZ (rg 7) 2052 (λo=>(Ac F 135 (⟨⟨sv0,f,i,t⟩,hlA nv.d⟩:NV).c).at o/\(Ac L 135 (⟨⟨sv0,x,a,b⟩,hlB nv.d⟩:NV).c).at o/\(Ac H 77 (CN nv.d).c).at o) I St.drawn (Hc 1 0 3 I)<|Dq I (AH ((⟨⟨sv0,f,i,t⟩,hlA nv.d⟩:NV).c) I AV AK I uO (I)<|I)<|Dq I (AH ((⟨⟨sv0,x,a,b⟩,hlB nv.d⟩:NV).c) I AV AK I wV (I)<|I)<|Dq I (AH ((CN nv.d).c) I OO MW I Va (Bq _) Nw)<|AD<|MX I<|SW AK I Nc<|Ai (Hc 0 1 3 I)<|AD<|MX I ?_;exact AF I I AK I I I Nc iZ<|Bb (show Sep.splice _ 0 ((⟨⟨sv0,x,a,b⟩,hlB nv.d⟩:NV)).c=((⟨⟨sv0,x,a,b⟩,hlB nv.d⟩:NV)).c from Sep.oR I)<|Ai (Hc 1 0 3 I)<|BP<|KC I<|AF I I MW I I Nw PU hL<|Ce ((CN nv.d)).c (Sep.oR<|by first|(simp only[Kv.oQ];done)|(show (Kv.c _).length=(Kv.c _).length;rw[Kv.oQ,Kv.oQ]))<|KC I<|R I I uW<|AN<|Kt<|Al<|BP<|Ae<|Pm [2,1] I<|Gd I wW xM (AL I OO MW xd Nw) (id I)<|λ_ h=>⟨⟨f,i,t,x,a,b⟩,rfl,⟨y,z⟩,h.drop.drop.drop.sublist<|tA.2<|tA.2<|tA.2<|tA.2<|sj _⟩
def XeN (x y:NV) (i:Nat) (z:Int) (f:x.d.leaf=false) (K:x.d.kids.length<4) (g:i<x.d.kids.length) (G:x.d.piv.length+1=x.d.kids.length) (t:V7 z) (u:SG x.d.kids z=none) (o:y.d.leaf=false) (l:y.d.kids.length=4) (j:y.d.piv.length=3) (D:Bt Ms.key y.d.msgs) (C:y.d.Sm 1000):Df prog 209 [.agg x.c.toArray,.agg y.c.toArray,aa (i:Int),aa z] (λw=>OE w x/\OE w y) [] (λb:HS×Sv×Sv=>.tuple #[.agg (⟨⟨x.s.e,b.2.1,b.2.2,x.s.m⟩,BL x.d i (CN y.d) z⟩:NV).c.toArray,.agg (b.1.A y.d).c.toArray,.agg (b.1.B y.d).c.toArray,.bool true]) (λb=>GA y.s.m.v y.d.msgs (hlA y.d).msgs b.1.m1.v/\GA y.s.m.v y.d.msgs (hlB y.d).msgs b.1.m2.v) (λb=>CT b.2.1 (BL x.d i (CN y.d) z).kids::CU b.2.2 (BL x.d i (CN y.d) z).piv::b.1.rows y.d):=by
 intro w O L;obtain⟨E,P⟩:=O;refine E0 func209 I L ?_;refine Y I<|Z I<|AT I I I I<|λN=>Ce x.c I<|Z I<|AT I I I I<|λV=>Ce y.c I<|Z I<|Ax I I I zeroValue135<|λS=>Ce NZ.c I<|Z I<|Ax I I I zeroValue135<|λQ=>Ce NZ.c I<|Z I<|Ax I I I zeroValue135<|λR=>Ce NZ.c I<|A I<|Ad<|Y I<|Lq I oM<|Mv 2 I<|Z I<|E1 (Nf x i z f K g t u) I call264 (λ_ h=>E.keep h)<|λ_ _=>Lq I (Qt I)<|Lm I<|EJ Bj I Z4 I<|Lo G4 3 I<|Lq I (Qz I)<|Nk<|Sb 21 false I (by first|rfl|(rw[o];done))<|Ab I<|Ah<|Kt<|Y I<|Lq I (Cq y.c AV AK 3 I (I)<|I)<|Z I<|EH (Kf y l j D C) I I I call265 I (λ_ h=>P.keep h) ?_
 rintro s ⟨F,J⟩;refine Mv 5 I<|Z I<|Ax I I I zeroValue77<|λbk=>Ce (Na 8).c I<|C3<|Z I<|SW AK I Nc<|C3<|Z I<|SW AK I Nc<|AQ<|Z I<|AF I I MW I I Nw PU hL<|Ce ((CN y.d)).c hQ<|ZGi ?_
 refine Lo Pq 9 I<|EJ Bj I Eo I<|Lo H6 9 I<|Lm I<|Lq I (Cq ((CN y.d).c) OO MW 0 I (Bq _) Nw)<|Lm I<|Z I<|DD (Kd x.s.k x.s.p x.d.kids x.d.piv i (CN y.d) z g G ZH3) I I I call266 I (λ_ h=>⟨E.k.keep h A3,E.p.keep h A3⟩) ?_;rintro⟨T,U⟩ _;refine Ux ?_;rintro⟨n,a⟩;dsimp only at a;subst a;refine Pre.fact (λ_ h=>Du<|h.rd 1 I) ?_;rintro⟨r,q⟩;dsimp only at q;subst q;refine Mv 3 I<|EJ Bj I OQ I<|TO<|Z I<|AB I I OQ I I I dB<|Ce (⟨⟨x.s.e,n,x.s.p,x.s.m⟩,{x.d with kids:=x.d.kids.take (i+1)++([z]++x.d.kids.drop (i+1))}⟩:NV).c I<|EJ Bj I Eo I<|Z I<|AB I I Eo I I I dF<|Ce (⟨⟨x.s.e,n,r,x.s.m⟩,BL x.d i (CN y.d) z⟩:NV).c I<|Ns<|LZ (rg 7) 2052 (λH=>(Ac N 135 (⟨⟨x.s.e,n,r,x.s.m⟩,BL x.d i (CN y.d) z⟩:NV).c).at H/\(Ac Q 135 (s.A y.d).c).at H/\(Ac R 135 (s.B y.d).c).at H) I St.drawn (Hc 0 5 4 I)<|Dq I (AH ((⟨⟨x.s.e,n,r,x.s.m⟩,BL x.d i (CN y.d) z⟩:NV).c) I AV AK I uO (I)<|I)<|Dq I (AH ((s.A y.d).c) I AV AK I wV (I)<|I)<|Dq I (AH ((s.B y.d).c) I AV AK I Va (I)<|I)<|DF<|MX I<|SW AK I Nc<|Ai (Hc 1 6 5 I)<|C3<|MX I ?_;refine AF I I AK I I I Nc iZ<|Bb (show Sep.splice _ 0 ((s.A y.d)).c=((s.A y.d)).c from Sep.oR I)<|Ai (Hc 2 0 6 I)<|C3<|KC I<|SW AK I Nc<|KC I<|OC I I uW<|AN<|Kt<|Al<|Pm [2,1,0,1,1,2,2,2,2] I<|Gd I wW xM aA (id I) ?_
 exact λ_ h=>⟨(s,n,r),rfl,⟨F,J⟩,by
  have M:=h.drop.drop.drop
  exact M.sublist<|tA.2<|tA.2<|tA.2<|tA.2<|tA.2<|tA.2<|sj _⟩
def Sp (x y:NV) (i:Nat) (z:Int) (j:x.d.leaf=false) (N:x.d.kids.length<4) (n:i<x.d.kids.length) (J:x.d.piv.length+1=x.d.kids.length) (B:V7 z) (D:SG x.d.kids z=none) (f:y.d.leaf) (A:Bt Ms.key x.d.msgs) (C:Bt Ms.key<|MJ x.d i) (E:J9 y.d.es<|MJ x.d i) (L:MJ x.d i≠[]) (O:x.d.Sm 1000) (G:y.d.Sm 1000) (U:∀e∈(BZ y.d.es<|MJ x.d i),e.Bd) (F:2<=(BZ y.d.es<|MJ x.d i).length) (l:0<lby (BZ y.d.es<|MJ x.d i)) (M:(BZ y.d.es<|MJ x.d i).length<=30000):Df prog 210 [.agg x.c.toArray,.agg y.c.toArray,aa (i:Int),aa z] (λw=>OE w x/\OE w y) [] (λb:Sv×Sv×Sv×Sv×Sv=>.tuple #[.agg (⟨⟨x.s.e,b.1,b.2.1,b.2.2.1⟩,BL (Bz x.d i) i (((BZ y.d.es<|MJ x.d i).getD (spl<|BZ y.d.es<|MJ x.d i) en0).key) z⟩:NV).c.toArray,.agg (OL b.2.2.2.1<|(BZ y.d.es<|MJ x.d i).take<|spl<|BZ y.d.es<|MJ x.d i).c.toArray,.agg (OL b.2.2.2.2<|(BZ y.d.es<|MJ x.d i).drop<|spl<|BZ y.d.es<|MJ x.d i).c.toArray,.bool true]) Tr (λb=>[CT b.1 (BL (Bz x.d i) i (((BZ y.d.es<|MJ x.d i).getD (spl<|BZ y.d.es<|MJ x.d i) en0).key) z).kids,CU b.2.1 (BL (Bz x.d i) i (((BZ y.d.es<|MJ x.d i).getD (spl<|BZ y.d.es<|MJ x.d i) en0).key) z).piv,C5 b.2.2.1 (Bz x.d i).msgs,Ct b.2.2.2.1<|(BZ y.d.es<|MJ x.d i).take<|spl<|BZ y.d.es<|MJ x.d i,Ct b.2.2.2.2<|(BZ y.d.es<|MJ x.d i).drop<|spl<|BZ y.d.es<|MJ x.d i]):=by
 intro w S Q;obtain⟨u,v⟩:=S;refine E0 func210 I Q ?_;refine Cs I<|LW I<|AT I I I I<|λX=>Ce x.c I<|LW I<|AT I I I I<|λZ=>Ce y.c I<|LW I<|Ax I I I zeroValue135<|λP=>Ce NZ.c I<|LW I<|Ax I I I zeroValue135<|λT=>Ce NZ.c I<|LW I<|Ax I I I zeroValue135<|λV=>Ce NZ.c I<|Ak I<|Ad<|Cs I<|Lq I oM<|Mv 2 I<|LW I<|E1 (Nf x i z j N n B D) I call264 (λ_ h=>u.keep h)<|λ_ _=>Lq I (Qt I)<|Lm I<|EJ Bj I Z4 I<|Lo G4 3 I<|Mv 2 I<|Nk<|Sb 22 false I (by first|rfl|(rw[f];rfl))<|Ab I<|Ah<|Kt<|Cs I<|Lq I oM<|Lq I (Cq y.c AV AK 3 I (I)<|I)<|Lm I<|LW I<|DD (Xah x y i f A1 A C E L O G) I I I call260 I (λ_ h=>⟨u.keep h,v.keep h⟩) ?_
 intro ⟨a,s⟩ _;refine Mv 4 I<|Cd<|LW I<|SW AK I Nc<|Cd<|LW I<|SW AK I Nc<|Nk<|Cs I<|Lq I (Cq ((⟨⟨s,y.s.k,y.s.p,y.s.m⟩,{y.d with es:=BZ y.d.es<|MJ x.d i}⟩:NV).c) AV AK 0 I (I)<|I)<|LW I<|DD (Gz (⟨⟨s,y.s.k,y.s.p,y.s.m⟩,{y.d with es:=BZ y.d.es<|MJ x.d i}⟩:NV) U F l (by have:=M;omega)) I I I call267 I (λ_ h=>⟨h.rd 3 rfl,v.k.keep h A3,v.p.keep h A3,v.m.keep h A3⟩) ?_;rintro⟨o,H⟩ _;refine Mv 5 I<|LW I<|Ax I I I zeroValue77<|λbk=>Ce (Na 8).c I<|BP<|LW I<|SW AK I Nc<|FL<|LW I<|SW AK I Nc<|AQ<|LW I<|AF I I MW I I Nw PU hL<|Ce (((BZ y.d.es<|MJ x.d i).getD (spl<|BZ y.d.es<|MJ x.d i) en0).key).c (Sep.oR<|by first|(simp only[Kv.oQ];done)|(show (Kv.c _).length=(Kv.c _).length;rw[Kv.oQ,Kv.oQ]))<|ZGi ?_
 refine Lo Pq 5 I<|EJ Bj I Eo I<|Lo H6 5 I<|Lm I<|Lq I (Cq (((BZ y.d.es<|MJ x.d i).getD (spl<|BZ y.d.es<|MJ x.d i) en0).key.c) OO MW 0 I (Bq _) Nw)<|Lm I<|LW I<|DD (Kd (⟨⟨x.s.e,x.s.k,x.s.p,a⟩,Bz x.d i⟩:NV).s.k (⟨⟨x.s.e,x.s.k,x.s.p,a⟩,Bz x.d i⟩:NV).s.p (⟨⟨x.s.e,x.s.k,x.s.p,a⟩,Bz x.d i⟩:NV).d.kids (⟨⟨x.s.e,x.s.k,x.s.p,a⟩,Bz x.d i⟩:NV).d.piv i (((BZ y.d.es<|MJ x.d i).getD (spl<|BZ y.d.es<|MJ x.d i) en0).key) z n J ZH3) I I I call266 I (λ_ h=>⟨u.k.keep h A3,u.p.keep h A3⟩) ?_;rintro⟨W,Y⟩ _;refine Ux ?_;rintro⟨q,g⟩;dsimp only at g;subst g;refine Pre.fact (λ_ h=>Du<|h.rd 1 I) ?_;rintro⟨t,r⟩;dsimp only at r;subst r;refine Mv 3 I<|EJ Bj I OQ I<|FL<|LW I<|AB I I OQ I I I dB<|Ce (⟨⟨x.s.e,q,x.s.p,a⟩,{Bz x.d i with kids:=x.d.kids.take (i+1)++([z]++x.d.kids.drop (i+1))}⟩:NV).c I<|EJ Bj I Eo I<|LW I<|AB I I Eo I I I dF<|Ce (⟨⟨x.s.e,q,t,a⟩,BL (Bz x.d i) i (((BZ y.d.es<|MJ x.d i).getD (spl<|BZ y.d.es<|MJ x.d i) en0).key) z⟩:NV).c I<|Ns<|LZ (rg 7) 2052 (λK=>(Ac P 135 (⟨⟨x.s.e,q,t,a⟩,BL (Bz x.d i) i (((BZ y.d.es<|MJ x.d i).getD (spl<|BZ y.d.es<|MJ x.d i) en0).key) z⟩:NV).c).at K/\(Ac T 135 (OL o<|(BZ y.d.es<|MJ x.d i).take<|spl<|BZ y.d.es<|MJ x.d i).c).at K/\(Ac V 135 (OL H<|(BZ y.d.es<|MJ x.d i).drop<|spl<|BZ y.d.es<|MJ x.d i).c).at K) I St.drawn (Hc 0 5 4 I)<|Dq I (AH ((⟨⟨x.s.e,q,t,a⟩,BL (Bz x.d i) i (((BZ y.d.es<|MJ x.d i).getD (spl<|BZ y.d.es<|MJ x.d i) en0).key) z⟩:NV).c) I AV AK I uO (I)<|I)<|Dq I (AH ((OL o<|(BZ y.d.es<|MJ x.d i).take<|spl<|BZ y.d.es<|MJ x.d i).c) I AV AK I wV (I)<|I)<|Dq I (AH ((OL H<|(BZ y.d.es<|MJ x.d i).drop<|spl<|BZ y.d.es<|MJ x.d i).c) I AV AK I Va (I)<|I)<|MX I<|SW AK I Nc<|Ai (Hc 0 5 4 I)<|B7<|MX I<|AF I I AK I I I Nc iZ ?_;refine Bb (show Sep.splice _ 0 ((OL o<|(BZ y.d.es<|MJ x.d i).take<|spl<|BZ y.d.es<|MJ x.d i)).c=((OL o<|(BZ y.d.es<|MJ x.d i).take<|spl<|BZ y.d.es<|MJ x.d i)).c from Sep.oR I)<|Ai (Hc 1 0 5 I)<|B7<|KC I<|SW AK I Nc<|KC I<|OC I I uW<|AN<|Kt<|Al<|Pm [2,1,0,0,0,3,1,1] I<|Gd I wW xM aA (id I) ?_
 exact λ_ h=>⟨(q,t,a,o,H),rfl,T0,by
  have R:=h.drop.drop.drop
  exact R.sublist<|tA.2<|tA.2<|tA.2<|tA.2<|tA.2<|sj _⟩
def XeO {γ:Type} (nv:NV) (d x:Int) (q:¬d=x) (s:V7 d) (n:V7 x) (V:γ->NV×NV) (f:γ->ci) (r:γ->Prop) (z:c3) {B l:Nat} (j:Df prog 270 [.agg nv.c.toArray] Tr [] (λ_:Unit=>.agg #[Pj B,Pj l]) Tr<|λ_=>[]) (e:∀us w,(callFunc l us).run prog w=.ok (.enter l us) w) (u:Df prog l [.agg nv.c.toArray] (λw=>OE w nv) [] (λg:γ=>.tuple #[.agg (V g).1.c.toArray,.agg (V g).2.c.toArray,.agg z.c.toArray,.bool true]) r f):Df prog 212 [.agg nv.c.toArray,aa d,aa x] (λw=>OE w nv) [] (λb:γ×Sv×Sv=>.tuple #[.agg (⟨⟨sv0,b.2.1,b.2.2,sv0⟩,⟨false,[],[d,x],[z],[]⟩⟩:NV).c.toArray,.agg (V b.1).1.c.toArray,.agg (V b.1).2.c.toArray,.bool true]) (λb=>r b.1) (λb=>CT b.2.1 [d,x]::CU b.2.2 [z]::f b.1):=by
 intro w p A;refine E0 func212 I A ?_;refine Y I<|Z I<|AT I I I I<|λo=>Ce nv.c I<|Z I<|Ax I I I zeroValue135<|λv=>Ce NZ.c I<|Z I<|Ax I I I zeroValue135<|λm=>Ce NZ.c I<|Z I<|Ax I I I zeroValue135<|λt=>Ce NZ.c I<|Ak I<|Ad<|Y I<|C 4 I<|Sf 14 I q<|Lm I<|Z I<|E1 (IB d) I call269 Tt<|λ_ _=>U I (Qt I)<|C 2 I<|Sb 19 false I (by rw[s];rfl)<|Lm I<|Z I<|E1 (IB x) I call269 Tt<|λ_ _=>U I (Qt I)<|U I (Qz I)<|G<|Sb 23 false I (by rw[n];rfl)<|Ab I<|Ah<|Ks ?_
 refine Ew (λ(g:γ) (a:Nat)=>[(1,aa d),(2,aa x),(3,pV o),(6,pV v),(7,pV m),(8,pV t),(9,.bool true),(10,pV a)]) (λ(g:γ) (a:Nat)=>St w []<|Ac a 77 z.c::Ac t 135 (V g).2.c::Ac m 135 (V g).1.c::Ac v 135 NZ.c::Ac o 135 nv.c::f g) (λ(g:γ) (a:Nat)=>r g) ?_ ?_
 .refine DP (λk=>(Ac o 135 nv.c).at k) I St.drawn (Aq 0 I Uu iC<|Aq 3 I Uu iC<|QZ 1 10 I ?_ ?_)
  .refine E1 j I call270 Tt (λ_ _=>Ai Uu<|Aq 2 I Uu iR<|QZ 4 10 I ?_ ?_)
   .refine Cf u I I I I e I iH (λg y=>Pre.world (St _ _<|[_,_,_,_]++f g) (λ_ h=>h.perm sV) ?_);refine Ai Uu<|Aq 5 I Uu uf<|Aq 6 I Uu (Qx I)<|Aq 7 I Uu (Qx I)<|Aq 8 I Uu (Qx I)<|Aq 9 I Uu (Qx I)<|Ay 10 I<|Ax I I I zeroValue77<|λa=>Ce (Na 8).c I<|Ai RY<|AQ<|Ay 11 I<|SW AK I Nc<|Ai RY<|AQ<|Ay 12 I<|SW AK I Nc<|Ai RY<|AQ<|Ay 13 I<|AF I I MW I I Nw PU hL<|Ce (z).c hQ<|Ai RY<|Aq 14 I RY uW<|An ?_
    exact Bf ((g,a)) y (Si I) Jx
   refine Ax I I I zeroValue77 (λa=>Ce (Na 8).c I<|Ai RY<|Ay 4 I<|Cf u I I I I e I iH<|λg y=>Pre.world (St _ _<|[_,_,_,_,_]++f g) (λ_ h=>h.perm sV) ?_);exact XdD
  refine Ax I I I zeroValue77 (λa=>Ce (Na 8).c I<|Ai RY<|Ay 1 I<|E1 j I call270 Tt<|λ_ _=>Ai RY<|Aq 2 I RY iR<|Ay 4 I<|Cf u I I I I e I iH<|λg y=>Pre.world (St _ _<|[_,_,_,_,_]++f g) (λ_ h=>h.perm sV) ?_);exact XdD
 intro g a y;refine Ad<|Y I<|C 2 I<|G<|Ab I<|Ah<|Ks<|DP (λk=>(Ac m 135 (V g).1.c).at k/\(Ac t 135 (V g).2.c).at k/\(Ac a 77 z.c).at k) I St.drawn<|Aq 0 I aH uf<|Aq 1 I aH uf<|Aq 3 I aH (AH z.c I OO MW I Va (Bq _) Nw)<|Aq 6 I aH (AH ((V g).1.c) I AV AK I uO (I)<|I)<|Aq 7 I aH (AH ((V g).2.c) I AV AK I wV (I)<|I)<|QZ 2 4 I ?_ ?_
 .refine As (sz:=1) [.tmp 42,.tmp 43] I I I I I KI Z3 I zeroValue3 I (λbk=>Ai (Hc 3 2 1 I)<|Ay 4 I<|As (sz:=9) [.tmp 45] I I I I I CZ MW I zeroValue77 xP<|λi=>Ai Xi<|Aq 5 I Xi Xd5<|B7<|Ay 8 I<|SW AK I Nc<|Ai (Hc 5 4 3 I)<|B7<|Ay 9 I<|SW AK I Nc<|Ai (Hc 0 5 4 I)<|B7<|Ay 10 I<|SW AK I Nc<|Ai (Hc 1 0 5 I)<|Aq 11 I (Hc 1 0 5 I) uW<|An<|Kt<|Al<|Cd<|Sj ds [d,x] I I<|Cd ?_);exact Sj (Kv.enc 8) [z] I I<|Pm [5,4,3,2,1] I<|Ae<|B7<|Ae<|Gd I wW xM aA (id I)<|λ_ h=>⟨(g,⟨some ⟨bk,0,none⟩,2,2⟩,⟨some ⟨i,0,none⟩,1,1⟩),rfl,y,h.drop.drop.drop⟩
 refine As (sz:=9) [.tmp 45] I I I I I CZ MW I zeroValue77 xP (λi=>Ai (Hc 3 2 1 I)<|Ay 2 I<|As (sz:=1) [.tmp 42,.tmp 43] I I I I I KI Z3 I zeroValue3 I<|λbk=>Ai Xi<|Aq 5 I Xi Xd5<|B7<|Ay 8 I<|SW AK I Nc<|Ai (Hc 5 4 3 I)<|B7<|Ay 9 I<|SW AK I Nc<|Ai (Hc 0 5 4 I)<|B7<|Ay 10 I<|SW AK I Nc<|Ai (Hc 1 0 5 I)<|Aq 11 I (Hc 1 0 5 I) uW<|An<|Kt<|Al<|BP<|Sj ds [d,x] I I<|Cd ?_);exact Sj (Kv.enc 8) [z] I I<|Pm [5,4,3,2,1] I<|Ae<|B7<|Ae<|Gd I wW xM aA (id I)<|λ_ h=>⟨(g,⟨some ⟨bk,0,none⟩,2,2⟩,⟨some ⟨i,0,none⟩,1,1⟩),rfl,y,h.drop.drop.drop⟩
def UM (d:Nd):bf:=(List.range d.kids.length).map<|λi=>QC<|Ed d.msgs d.piv i
def Xb6 (d:Nd):(UM d).length=d.kids.length:=by unfold UM;rw[qY,tr]
def Xcn {d:Nd} (h:i<d.kids.length):(UM d)[i]?=some (QC<|Ed d.msgs d.piv i):=by unfold UM;rw[qq,qt h];rfl
def VN (l:bf):Nat->Option Nat×Int
 |0=>(none,0)
 |n+1=>if (VN l n).2<l.getD n 0 then (some n,l.getD n 0) else VN l n
def H7 (d:Nd):Option Nat:=if d.leaf=true then none else (VN (UM d) d.kids.length).1
def ZD (l:bf):∀n,0<=(VN l n).2
 |0=>Int.le_refl _
 |n+1=>by
  have:=ZD l n
  unfold VN
  split
  .rename_i h;dsimp only;omega
  .exact this
def Sq:∀{n:Nat},(VN l n).1=some i->i<n/\(VN l n).2=l.getD i 0/\0<l.getD i 0
 |0,h=>wU
 |n+1,h=>by
  have y:=ZD l
  unfold VN at h ⊢
  split
  .rename_i hlt
   rw[pN hlt] at h
   cases h
   exact⟨Nat.lt_succ_self _,rfl,Int.lt_of_le_of_lt (y _) hlt⟩
  .rename_i hlt
   rw[pQ hlt] at h
   obtain⟨z,a,x⟩:=Sq h
   exact⟨Nat.lt_succ_of_lt z,a,x⟩
def XhC:∀{n:Nat},(VN l n).1=none->(VN l n).2=0/\∀i,i<n->l.getD i 0<=0
 |0,_=>⟨rfl,λi h=>absurd h<|s6 _⟩
 |n+1,h=>by
  unfold VN at h ⊢
  split
  .rename_i hlt;rw[pN hlt] at h;cases h
  .rename_i hlt
   rw[pQ hlt] at h
   obtain⟨x,z⟩:=XhC h
   refine⟨x,λi hi=>?_⟩
   rcases tN.1 hi with y|rfl
   .exact z i y
   .rw[x] at hlt;omega
def Ng (nv:NV) (e:nv.d.leaf=false) (r:Bt Ms.key nv.d.msgs) (s:nv.d.piv.length+1=nv.d.kids.length) (y:nv.d.Sm 1000):Df prog 259 [.agg nv.c.toArray] (λw=>OE w nv) [] (λv:d0=>v) Tr (λv=>[AG v 3 ds<|UM nv.d]):=by
 intro w x g;obtain⟨u,D,C,A⟩:=y;refine E0 func259 I g ?_;refine Y I<|Z I<|AT I I I I<|λq=>Ce nv.c I<|Ak I<|Y I<|Ak I<|Ad<|Y I<|U I hG<|row0 3 ds none<|Z I<|E1 (I2 nv e) I call258 Tt<|λ_ _=>G<|Af<|Y I<|U rfl (Cj rfl LV uQ rfl) (Mv 2 I<|G<|Am I<|Y I<|Z I<|Ax I I I zeroValue366<|λf=>Ce NZ.c I<|Z I<|SW sizeOf366 I Nc<|G<|Y I<|N LV I OQ I<|Lo Pq 0 I<|U I (AM I KI I x.k.kp)<|Lm I<|G<|Af<|Pm [1] I ?_)
 refine B6 (λ(i:Nat) (v:d0)=>[(3,v),(4,pV f),(13,aa (nv.d.kids.length:Int)),(14,aa (i:Int))]) (λ(i:Nat) (v:d0)=>St w [] [AG v 3 ds<|(UM nv.d).take i,Ac f 366 nv.c,Ac q 135 nv.c]) (λ(i:Nat) (v:d0)=>i<=nv.d.kids.length) (λ(i:Nat) (v:d0)=>nv.d.kids.length-i) (0) (.slice none 0 0) (qc _) (Si I) Ih<|λi v hi=>Ad ?_
 have j:=Xb6 nv.d;have o:((UM nv.d).take i).length<=i:=tt _ _;refine Cr I<|U I (Ql I)<|Ns<|CB 15 I (λn=>?_)<|λn=>?_
 .have b:=Xcn (d:=nv.d) (i:=i) J;have l:=I3 nv.d.msgs nv.d.piv i;refine Am I<|Ah<|Ks<|Af<|Y I<|Lm I<|Ak I<|Cr I<|Lm I<|N LV I DS I<|Lo Fy 1 I<|N LV I Eo I<|Lo H6 1 I<|Lm I<|Z I<|E1 (Ge nv.d.msgs nv.d.piv i J r J J) I call59 (λ_ h=>⟨x.m.keep h A3,x.p.keep h A3⟩)<|λva a=>Z I<|E1 (LA (Ed nv.d.msgs nv.d.piv i) J) I call288 (λ_ h=>a _<|x.m.keep h A3)<|λ_ _=>Z I<|As (sz:=1) [.tmp 24] I I I I I KI Z3 I zeroValue3 I<|λB=>AD<|Z I<|Ap KI KI CD I (λ_ h=>AR kj ds [(QC<|Ed nv.d.msgs nv.d.piv i)] I I) A8<|λt=>Ba (show _=(UM nv.d).take (i+1) from by rw[sH,b];rfl)<|zI ?_
  exact AJ ((i+1,t)) A4 A4 (Si I) Jx
 have z:i=nv.d.kids.length:=by omega
 subst z;rw[pZ J];exact Ab I<|AP<|Aa<|Aa<|Ar<|Au<|Kt<|Y I<|Lm I<|Ak I<|Al<|Av I I<|λ_ h=>⟨v,rfl,T0,h.sublist<|tA.2<|sj _⟩
def Xen (nv:NV) (b:nv.d.leaf=false) (p:Bt Ms.key nv.d.msgs) (f:nv.d.piv.length+1=nv.d.kids.length) (a:nv.d.Sm 1000):Df prog 200 [.agg nv.c.toArray] (λw=>OE w nv) [] (λ_:Unit=>aa<|io<|H7 nv.d) Tr (λ_=>[]):=by
 intro w q l;have m:=Xb6 nv.d;have r:=a.k;refine E0 func200 I l<|Y I<|Z I<|AT I I I I<|λo=>Ce nv.c I<|A I<|Y I<|Nh I<|A I<|Ad<|Y I<|U I hG<|Z I<|AX (Ng nv b p f a) I I I call259 I (λ_ h=>q.keep h)<|λvw _=>U I Xg<|uG ?_
 refine Bm (λ(i:Nat)=>[(3,aa<|io (VN (UM nv.d) i).1),(4,aa (VN (UM nv.d) i).2),(8,vw),(9,aa ((UM nv.d).length:Int)),(10,aa (i:Int))]) (λ(i:Nat)=>St w [] [AG vw 3 ds<|UM nv.d,Ac o 135 nv.c]) (λ(i:Nat)=>i<=(UM nv.d).length) (λ(i:Nat)=>(UM nv.d).length-i) (0) (qc _) (Si I) Ih<|λi hi=>Y I<|yR ?_
 refine CB 11 I (λn=>?_)<|λn=>?_
 .obtain⟨x,j⟩:∃x,(UM nv.d)[i]?=some x:=⟨_,pE J⟩
  have g:(UM nv.d).getD i 0=x:=by rw[sY,j];rfl
  have y:VN (UM nv.d) (i+1)=if (VN (UM nv.d) i).2<x then (some i,x) else VN (UM nv.d) i:=by rw[<-g];rfl
  refine Am I<|Ah<|Ks<|Af<|Y I<|Lm I<|U I xO<|U I (AO i 0 I G3 I I ur j I)<|Nh I<|A I<|Y I<|C 2 I<|U I vd<|G<|CB 17 I (λz=>?_)<|λz=>?_
  .refine Am I (Cr I<|C 4 I<|AE<|HO ?_);exact AJ (i+1) J J (Sub.RJ I (by rw[y,pN z];rfl)<|Sub.RJ I (by rw[y,pN z])<|Si I) Jx
  refine Tm ?_;exact AJ (i+1) J J (Sub.RJ I (by rw[y,pQ z])<|Sub.RJ I (by rw[y,pQ z])<|Si I) Jx
 have e:i=nv.d.kids.length:=by omega
 subst e;exact Ab I<|AP<|Aa<|Aa<|Ar<|Kt<|Y I<|Lm I<|A I<|s<|Av I I<|λ_ h=>⟨(),congrArg Ei (by unfold H7;rw[pQ Ym]),T0,h.oS⟩
def Xeq (nv:NV) (x:nv.d.leaf=false->Bt Ms.key nv.d.msgs/\nv.d.piv.length+1=nv.d.kids.length) (y:nv.d.Sm 1000):Df prog 200 [.agg nv.c.toArray] (λw=>OE w nv) [] (λ_:Unit=>aa<|io<|H7 nv.d) Tr (λ_=>[]):=by
 cases h:nv.d.leaf with
 |true =>
  have e:H7 nv.d=none:=by unfold H7;rw[pN h]
  rw[e];exact λw _ z=>M1 nv h w trivial z
 |false=>exact Xen nv h (x h).1 (x h).2 y
def XjJ {f:Vw} (h:f.st≠3):isC t f=false:=by unfold isC;rw[sS h];rfl
def Xby (h:M.find b=none):∀(j:Nat) (z:Vw),M.fr[j]?=some z->z.st=1\/z.st=2->z.blk≠b:=λj z y x e=>by
 have:=Fp (p:=Oq b) (l:=M.fr) h z<|ry y
 unfold Oq at this
 rcases x with x|x<;>simp[e,x] at this
def Xco (h:Ry b):0<=b/\b<256:=by unfold Ry at h;simpa using h
def XjK (h:OJ t):0<=t/\t<8:=by unfold OJ at h;simpa using h
def eA (h:M.SY t b):OJ t=true:=by
 unfold Mo.SY at h;cases hh:OJ t with
 |true=>rfl
 |false=>rw[hh] at h;simp at h
def XjL (h:M.Ok B) (t b:Int) (o:B+1<=60000):(M.pin t b).2.Ok (B+1):=by
 have g:=h.mono (tC B) o;cases hc:(Ry b&&M.SY t b) with
 |false=>rw[TU hc];exact g
 |true =>
  have f:Ry b=true:=by rw[qW] at hc;exact hc.1
  have m:=Xco f;cases hf:M.find b with
  |none =>
   cases hk:M.takes t with
   |none=>rw[OS hc hf hk];exact Xb7 h t b ⟨J,J⟩ o
   |some k =>
    rw[XaW hc hf hk];obtain⟨y,d,a,_⟩:=Ix hk;refine KR (M:=M.leave t) (YZ g t) (y:=y) d (.inr VY) (λe=>xD) (λ_=>m) (λe=>zZ) XA ZFd (λ_ j z _ r p=>Xby hf j z r p) (λq _ e=>by rw[a] at e;cases e) (PZ 1000)
  |some i =>
   obtain⟨y,d,n,a,l⟩:=Fq hf;rw[Xcs hc hf l];have hm:=ry d;have s:=h.pins y hm;have x:((M.put i {y with pins:=y.pins+1,ref:=true}).leave t).Ok (B+1):=YZ (Gx (y':={y with pins:=y.pins+1,ref:=true}) g d rfl rfl rfl ⟨by show 0<=y.pins+1;omega,by show y.pins+1<=((B+1:Nat):Int);omega⟩ (h.es y hm)) t;split
   .exact x
   rename_i h2;refine⟨x.n1,x.n64,x.st,x.none',x.blk,x.own,x.XL,x.pins,x.uni,?_,x.lB,x.ln,x.lb,λq c=>?_,x.es,x.hw,x.B9⟩
   .show (M.loads++[(t,b)]).length<=B+1
    rw[pK];have:=h.ll;simp;omega
   rcases rB.1 (show q∈M.loads++[(t,b)] from c) with c|c
   .exact x.lo q c
   rw[rU] at c;subst c;refine⟨{y with pins:=y.pins+1,ref:=true},?_,by rcases a with e|e;exact e;exact absurd e h2,n⟩;exact ry<|show (M.fr.set i _)[i]?=some _ from tE (qp.1 d).1
def XhD (h:M.Ok B) (t:Int) (a:B+1<=60000):(M.claim t).2.Ok (B+1):=by
 have b:=h.mono (tC B) a;cases hc:M.SY t (-1) with
 |false=>rw[XaX hc];exact b
 |true =>
  have z:=XjK<|eA hc;cases hk:M.takes t with
  |none=>rw[Lx hc hk];exact Xb7 h t (-1) ⟨J,J⟩ a
  |some k =>
   rw[Xac hc hk];obtain⟨y,c,x,_⟩:=Ix hk;exact KR (M:=M.leave t) (YZ b t) (y:=y) c (.inr<|.inr VZ) XA (λe=>xD) (λ_=>z) (λe=>absurd rfl e) ZFd (λe=>xD) (λq _ e=>xA)<|PZ 1000
def eB (h:M.Ok B) (b:Int) (nd:Nd) (m:nd.Sm 1000):(M.fill b nd).2.Ok B:=by
 cases hf:M.Me b 1 with
 |none=>rw[OP nd hf];exact h
 |some i =>
  rw[XaB nd hf];obtain⟨f,a⟩:=JH hf;obtain⟨y,k,g,x,d⟩:=Fq f;rw[d] at a ⊢;have hm:=ry k
  have l:({M with loads:=M.loads.filter<|λq=>!decide (q.2=b)}:Mo).Ok B :=
   ⟨h.n1,h.n64,h.st,h.none',h.blk,h.own,h.XL,h.pins,h.uni,qM (tm _ _) h.ll,h.lB,h.ln,h.lb,λq c=>h.lo q (tc.1 c).1,h.es,h.hw,h.B9⟩
  refine KR (M:={M with loads:=M.loads.filter<|λq=>!decide (q.2=b)}) l (i:=i) (y:=y) (y':={y with st:=2,nd:=nd}) k (.inr<|.inr VY) (λe=>xD) (λ_=>h.blk y hm x) (λe=>zZ) (λ_=>h.XL y hm<|by rw[a];decide) (h.pins y hm) (λ_ j z hj o n e=>hj<|h.uni j i z y o k n x e) (λq c _ e=>?_) m;have:=(tc.1 c).2;rw[show q.2=b from by rw[<-e];exact g] at this;simp at this
def yc (h:M.Ok B) (t:Int):(M.give t).Ok B:=by
 have hm:∀f∈(M.give t).fr,(f∈M.fr/\isC t f=false)\/f=Cy:=λf x=>by
  obtain⟨g,y,e⟩:=qj.1<|show f∈M.fr.map (λf=>if isC t f=true then Cy else f) from x
  split at e
  .exact .inr e.symm
  rename_i hn;subst e;exact .inl ⟨y,by simpa using hn⟩
 have y:∀(i:Nat) (f:Vw),(M.give t).fr[i]?=some f->M.fr[i]?=some f\/f=Cy:=λi f x=>by
  rw[show (M.give t).fr=M.fr.map (λf=>if isC t f=true then Cy else f) from rfl,qq,rv] at x;obtain⟨g,y,e⟩:=x;split at e
  .exact .inr e.symm
  subst e;exact .inl y
 have b:(M.give t).fr.length=M.fr.length:=qY ..;refine⟨by rw[b];exact h.n1,by rw[b];exact h.n64,λf x=>?_,λf x=>?_,λf x=>?_,λf x=>?_,λf x=>?_,λf x=>?_,λi j f g hi hj x z e=>?_,h.ll,h.lB,h.ln,h.lb,λq d=>?_,λf x=>?_,h.hw,h.B9⟩
 .rcases hm f x with⟨x,_⟩|rfl
  .exact h.st f x
  exact .inl I
 .rcases hm f x with⟨x,_⟩|rfl
  .exact h.none' f x
  exact λ_=>I
 .rcases hm f x with⟨x,_⟩|rfl
  .exact h.blk f x
  exact λe=>xD
 .rcases hm f x with⟨x,_⟩|rfl
  .exact h.own f x
  exact λe=>zZ
 .rcases hm f x with⟨x,_⟩|rfl
  .exact h.XL f x
  exact λ_=>I
 .rcases hm f x with⟨x,_⟩|rfl
  .exact h.pins f x
  exact⟨A2,bW⟩
 .rcases y i f hi with hi|rfl
  .rcases y j g hj with hj|rfl
   .exact h.uni i j f g hi hj x z e
   rcases z with e|e<;>cases e
  rcases x with e|e<;>cases e
 .obtain⟨f,x,a,c⟩:=h.lo q d;refine⟨f,qj.2 ⟨f,x,?_⟩,a,c⟩;rw[pQ];rw[XjJ<|by rw[a];decide];decide
 rcases hm f x with⟨x,_⟩|rfl
 .exact h.es f x
 exact PZ 1000
def eD (h:M.Ok B) (t b:Int) (nd:Nd) (d:nd.Sm 1000):(M.name t b nd).2.Ok B:=by
 cases hb:(Ry b&&(M.find b).isNone) with
 |false=>rw[MY nd hb];exact h
 |true =>
  cases hk:B8 (isC t) M.fr with
  |none=>rw[XaY nd hk];exact h
  |some k =>
   rw[XaZ nd hb hk];rw[qW,ti] at hb;obtain⟨y,g,a,_⟩:=Dd hk;have x:y.st=3:=by unfold isC at a;simp only[qW,rA] at a;exact a.1
   exact KR h g (.inr<|.inr VY) (λe=>xD) (λ_=>Xco hb.1) (λe=>zZ) XA ⟨by show (0:Int)<=0;decide,bW⟩ (λ_ j z _ c f=>Xby hb.2 j z c f) (λq _ e=>xA) d
def XhE (h:M.Ok B) (b:Int):(M.Uf b).2.Ok B:=by
 cases hf:M.Me b 2 with
 |none=>rw[MU hf];exact h
 |some i =>
  obtain⟨z,c⟩:=JH hf;obtain⟨y,a,e,d,x⟩:=Fq z;by_cases hp:(M.at' i).pins=0
  .rw[Xaa hf hp];exact h
  rw[Xab hf hp];rw[x] at hp ⊢;have hm:=ry a;have:=h.pins y hm;exact Gx h a I I I ⟨by show 0<=y.pins-1;omega,by show y.pins-1<=_;omega⟩<|h.es y hm
def XjM (h:M.Ok B) (b:Int) (nd:Nd) (d:nd.Sm 1000):(M.N7 b nd).2.Ok B:=by
 cases hf:M.Me b 2 with
 |none=>rw[RO nd hf];exact h
 |some i =>
  rw[XaV nd hf];obtain⟨z,c⟩:=JH hf;obtain⟨y,a,f,e,x⟩:=Fq z;rw[x];exact Gx h a I I I (h.pins y<|ry a) d
def XjN (z:1<=n) (y:n<=64):(WC n).Ok 0:=by
 have hm:∀f∈(WC n).fr,f=Cy:=λf h=>(rC.1<|show f∈List.replicate n Cy from h).2
 have a:(WC n).fr.length=n:=s9 ..;refine⟨J,J,λf h=>?_,λf h=>?_,λf h=>?_,λf h=>?_,λf h=>?_,λf h=>?_,λi j f g hi _ h _ _=>?_,qb _,qb _,sh,(λq x=>nomatch x),(λq x=>nomatch x),λf h=>?_,rfl,A2⟩
 .rw[hm f h];exact .inl rfl
 .rw[hm f h];exact λ_=>rfl
 .rw[hm f h];exact λe=>xD
 .rw[hm f h];exact λe=>zZ
 .rw[hm f h];exact λ_=>rfl
 .rw[hm f h];exact⟨A2,A2⟩
 .rw[hm f<|ry hi] at h;rcases h with e|e<;>cases e
 rw[hm f h];exact PZ 1000
section
variable {P:d8} {n:Nat} {L:Env} {X:aU} {o:Oper} {Q:aB} {K:aO}
variable {w0:d7} {D:bm} {H:ci} {α:Type} {E:Enc α} {l:List α} {v:d0}
def I4 {t:d4} {i:TypeInfo} {z:d0} {s:d5} {m:Nat} {a0:α} (ho:o.op=.call ⟨.builtin .append,#[s,x],#[t,tx]⟩) (hd:o.dst=some d) (U:d.blt n) (ht:P.underlying t=some (.slice e)) (J:P.underlying tx=some (.int .i64)) (hi:P.info? e=some i) (hs:i.size=E.sz) (hz:i.zero=some z) (G:z.cells.toList=E.f a0)
 (S:ev L s=some v) (O:ev L x=some (aa (m:Int))) (hb:(l.length+m)*i.bytes<=140737488355328) (hn:l.length+m<=9223372036854775807)
 (h:∀A,Pre n ((d,A)::L) (St w0 D<|AG A e E (l++List.replicate m a0)::H) K):Nl P n L (St w0 D<|AG v e E l::H) o Q K:=by
 by_cases hgt:Vr v<l.length+m
 .exact JY ho hd U ht J hi hs hz G S O (λ_ h=>h.rd 0 I) hgt hb hn<|λA=>(h A).world _<|λw s=>s.sublist<|tA.2<|si _ _
 exact Nl.val (β:=d0) (λv=>v) Tr (λA=>St w0 D<|AG A e E (l++List.replicate m a0)::H) hd U (λac w kn hX=>by
  have x2:Ec w v E l:=BA<|hX.at 0 rfl;obtain⟨a,c,rfl,hc,_⟩:=x2;have y:l.length+m<=c:=by have:¬c<l.length+m:=hgt;omega
  have X:∀w,(sizeOf e).run P w=.ok E.sz w:=λw=>nU
  have W:∀w,(typeInfo e).run P w=.ok i w:=λw=>by simp[typeInfo,hi]
  have T:∀w,(zeroValue e).run P w=.ok z w:=λw=>nK
  have x3:IntKind.i64.wrap (m:Int)=(m:Int):=Co A1
  have h5:¬((m:Int)*(i.bytes:Int)>281474976710656):=by
   have:m*i.bytes<=(l.length+m)*i.bytes:=qy _ A1;rw[<-sF];omega
  have h6:¬((m:Int)<0):=A1;have g:z.cells.size=E.sz:=by rw[<-rF,G,E.len]
  have x7:0<E.sz:=E.pos
  have N:(Builtin.zeroCells z.cells m).toList=E.flat (List.replicate m a0):=by
   refine qA<|λk=>?_
   by_cases hk:k<m*E.sz
   .have j:k%E.sz<E.sz:=qf _ E.pos;have V:k/E.sz<m:=(Nat.div_lt_iff_lt_mul E.pos).2 hk;have e1:k=k/E.sz*E.sz+k%E.sz:=by rw[qe];exact (Nat.div_add_mod k E.sz).symm
    have hg:=E.flat_get (List.replicate m a0) (k/E.sz) (k%E.sz) a0 _ (by simp[V])<|pE<|by rw[E.len];exact j
    rw[<-e1] at hg;rw[hg]
    have h2:z.cells[k%z.cells.size]! = (E.f a0)[k%E.sz]'(by rw[E.len];exact j):=by
     rw[getElem!_pos z.cells (k%z.cells.size)<|by rw[g];exact j];have:z.cells.toList[k%z.cells.size]'(by rw[rF,g];exact j)=(E.f a0)[k%E.sz]'(by rw[E.len];exact j):=by simp only[G,g]
     simpa using this
    have h3:k<(Builtin.zeroCells z.cells m).size:=by rw[sP,g];exact hk
    rw[<-h2,s7,s8 h3];simp[Builtin.zeroCells]
   rw[pH (by rw[rF,sP,g];omega),pH<|by rw[E.oU,s9];omega]
  have hm0:∀w,(if m*E.sz=0 then pure #[] else do pure (Builtin.zeroCells (<-zeroValue e).cells m):Sem<|cb).run P w=.ok (Builtin.zeroCells z.cells m) w:=λw=>by
   split
   .rename_i h0;have:m=0:=by rcases qB.1 h0 with h|h;exact h;omega
    subst this;have:Builtin.zeroCells z.cells 0=#[]:=by apply sO.1;rw[N];rfl
    rw[this];rfl
   simp[T]
  have F:(Builtin.append_ #[t,tx] o.type #[.slice a l.length c,aa (m:Int)]).run P w=(Sem.run P (match a with|some a=>storeCells (a.add<|l.length*E.sz) (E.flat<|List.replicate m a0)|none=>pure ():Sem Unit) w).andThen (λ_ M=>.ok (.slice a (l.length+m) c) M):=by
   by_cases h0:m*E.sz=0
   .have x4:m=0:=by rcases qB.1 h0 with h|h;exact h;omega
    subst x4;have h8:IntKind.i64.wrap 0=0:=A2;cases a<;>simp[Builtin.append_,Be ht,Be J,X,W,asInt,asIntOf,h8,y,storeCells,Enc.flat_nil,hc]
   have x9:=hm0 w;cases a<;>simp[Builtin.append_,Be ht,Be J,X,W,T,asInt,asIntOf,x3,h6,h5,y,h0,N]
  have p:∀r,(Builtin.append_ #[t,tx] o.type #[.slice a l.length c,aa (m:Int)]).run P w=r->(execOp ac.eval o).run P w=r.andThen (λv M=>.ok (.value v) M):=λr hr=>by
   simp[execOp,ho,resolve,invoke,builtin,kn.eval S,kn.eval O,hr]
  by_cases hm:m=0
  .subst hm;refine⟨.slice a l.length c,w,?_,T0,by simpa using hX⟩;rw[p _ F];cases a<;>simp[Enc.flat_nil,storeCells]
  have h7:Row (.slice a l.length c) e E l ((Dv<|.slice a l.length c).bind (w.heap[·]?)):=hX.at 0 rfl;rcases h7 with⟨a',he,rfl⟩|⟨b,cap,pre,q,he,y1,Y,x6,h4⟩
  .cases he;simp at y;exact absurd y hm
  cases he
  have B:Dv (.slice (some ⟨b,pre.length,none⟩) l.length c)=some b:=by simp[Dv];omega
  have h1:St w0 D (Ac b e (pre++E.flat l++q)::H) w:=hX.head B.symm<|λ_=>by rw[B] at Y;exact Y
  have x1:=E.oU l;have h9:=E.oU<|List.replicate m a0;rw[s9] at h9;have R:(l.length+m)*E.sz<=c*E.sz:=qy _ y;have x5:(c-l.length)*E.sz=c*E.sz-l.length*E.sz:=sN ..;rw[pW] at R
  have C:pre.length+l.length*E.sz+0+(E.flat<|List.replicate m a0).length<=(pre++E.flat l++q).length:=by
   simp only[pK];omega
  obtain⟨M,hr,Z⟩:=CH (P:=P) (off:=pre.length+l.length*E.sz) (E.flat<|List.replicate m a0) _ 0 h1 C<|λu hu=>E.eu _ u hu
  refine⟨.slice (some ⟨b,pre.length,none⟩) (l.length+m) c,M,?_,T0,?_⟩
  .rw[p _ F];simp only[BT,hr,qE]
  rw[Vf _ _ _<|by simpa using C] at Z
  have t1:(pre++E.flat l++q).take (pre.length+l.length*E.sz+0)=pre++E.flat l:=by
   rw[sf,<-x1,<-pK,sE]
  rw[t1] at Z;have e2:pre++E.flat l++E.flat (List.replicate m a0)=pre++E.flat (l++List.replicate m a0):=by rw[E.pe,qQ]
  rw[e2] at Z
  have:=DB (cap:=c) Z A1 dQ (by
   simp only[pJ,pK,sf,s9];have x8:(c-(l.length+m))*E.sz=c*E.sz-(l.length*E.sz+m*E.sz):=by rw[sN,pW]
   omega)
  simpa using this)<|λA _=>h A
end
def EW:bf:=[1,0,0,0]++List.replicate 252 0
def EX:bf:=[1,0,0,0]++le (Gb EW) 4++List.replicate 248 0
def FB:EW.length=256:=by unfold EW;rw[pK,s9];rfl
def Ni:EX.length=256:=by unfold EX;rw[pK,pK,s9,BE];rfl
def Nj:[1,0,0,0]++List.replicate 4 (0:Int)++List.replicate 248 0=EW:=by
 unfold EW;rw[qQ,tf]
def T9 (pre post:bi):Sep.splice (pre++dt.flat EW++post) (pre.length+4) (dt.flat<|le (Gb EW) 4)=pre++dt.flat EX++post:=by
 have h:EW=[1,0,0,0]++(List.replicate 4 0++List.replicate 248 0):=by rw[<-qQ,Nj]
 have x:dt.flat EW=dt.flat [1,0,0,0]++(dt.flat (List.replicate 4 0)++dt.flat (List.replicate 248 0)):=by
  conv=>lhs;rw[h]
  rw[Enc.pe,Enc.pe]
 have z:dt.flat EX=dt.flat [1,0,0,0]++dt.flat (le (Gb EW) 4)++dt.flat (List.replicate 248 0):=by
  unfold EX;rw[Enc.pe,Enc.pe]
 have y:(pre++dt.flat [1,0,0,0]).length=pre.length+4:=by rw[pK,Enc.oU];rfl
 have:=Sep.XP (dt.flat<|le (Gb EW) 4) (dt.flat<|List.replicate 4 0) (pre++dt.flat [1,0,0,0]) (dt.flat (List.replicate 248 0)++post)<|by rw[Enc.oU,Enc.oU,s9,BE]
 rw[y] at this;rw[x,z];exact oO
def XgM (pre post:bi):Sep.splice (pre++dt.flat EX++post) (pre.length+4) (List.replicate 4<|ab 0)=pre++dt.flat EW++post:=by
 have h:EW=[1,0,0,0]++(List.replicate 4 0++List.replicate 248 0):=by rw[<-qQ,Nj]
 have x:dt.flat EW=dt.flat [1,0,0,0]++(dt.flat (List.replicate 4 0)++dt.flat (List.replicate 248 0)):=by
  conv=>lhs;rw[h]
  rw[Enc.pe,Enc.pe]
 have a:dt.flat EX=dt.flat [1,0,0,0]++(dt.flat (le (Gb EW) 4)++dt.flat (List.replicate 248 0)):=by
  unfold EX;rw[qQ,Enc.pe,Enc.pe]
 have y:(pre++dt.flat [1,0,0,0]).length=pre.length+4:=by rw[pK,Enc.oU];rfl
 have z:dt.flat (List.replicate 4 0)=List.replicate 4 (ab 0):=rfl;have:=Sep.XP (List.replicate 4<|ab 0) (dt.flat<|le (Gb EW) 4) (pre++dt.flat [1,0,0,0]) (dt.flat (List.replicate 248 0)++post)<|by rw[Enc.oU,s9,BE];rfl
 rw[y] at this;rw[x,a,z];exact oO
def XhF:(EX.take 8).drop 4=le (Gb EW) 4:=by
 unfold EX;have h:([1,0,0,0]++le (Gb EW) 4).length=8:=by rw[pK,BE];rfl
 rw[sK J,pZ J];exact List.drop_left' I
def XjO:EX[0]?=some 1:=rfl
def jN:EX[1]?=some 0:=rfl
def XjP:EX[2]?=some 0:=rfl
def Xfw (vb:d0):Df prog 217 [vb,.agg TV.c.toArray] Tr [] (λ_:Unit=>vb) Tr (λ_=>[]):=by
 intro w z y;refine E0 func217 I y<|Y I<|Z I<|AT I I I I<|λx=>Ce TV.c I<|A I<|Ad<|Y I<|N Bj I RQ I<|Lo UN 0 I<|U I (Fw I O8 I)<|r I<|G<|Af ?_
 refine Bm (λ(u:Unit)=>[(0,vb),(3,pV x),(15,aa ap),(16,aa ap)]) (λ(u:Unit)=>St w [] [Ac x 135 TV.c]) (λ(u:Unit)=>True) (λ(u:Unit)=>0) (()) trivial (Si I) Ih (λu _=>Y I<|U I (Ql I)<|Ns<|Sb 17 false I (I)<|Ab I<|AP<|Aa<|Aa<|Ar<|Ks<|Y I<|N Bj I OQ I<|Lo Pq 0 I<|U I (Fw I KI I)<|r I<|G<|Af ?_);refine Bm (λ(u:Unit)=>[(0,vb),(3,pV x),(38,aa ap),(39,aa ap)]) (λ(u:Unit)=>St w [] [Ac x 135 TV.c]) (λ(u:Unit)=>True) (λ(u:Unit)=>0) (()) trivial (Si I) Ih (λu _=>Y I<|U I (Ql I)<|Ns<|Sb 40 false I (I)<|Ab I<|AP<|Aa<|Aa<|Ar<|Ks<|Y I<|N Bj I Eo I<|Lo H6 0 I<|U I (Fw I CZ I)<|r I<|G<|Af ?_);refine Bm (λ(u:Unit)=>[(0,vb),(3,pV x),(50,aa ap),(51,aa ap)]) (λ(u:Unit)=>St w [] [Ac x 135 TV.c]) (λ(u:Unit)=>True) (λ(u:Unit)=>0) (()) trivial (Si I) Ih (λu _=>Y I<|U I (Ql I)<|Ns<|Sb 52 false I (I)<|Ab I<|AP<|Aa<|Aa<|Ar<|Ks<|Y I<|N Bj I DS I<|Lo Fy 0 I<|U I (Fw I BH I)<|r I<|G<|Af ?_);refine Bm (λ(u:Unit)=>[(0,vb),(3,pV x),(64,aa ap),(65,aa ap)]) (λ(u:Unit)=>St w [] [Ac x 135 TV.c]) (λ(u:Unit)=>True) (λ(u:Unit)=>0) (()) trivial (Si I) Ih (λu _=>Y I<|U I (Ql I)<|Ns<|Sb 66 false I (I)<|bP ?_);exact λ_ h=>⟨(),rfl,T0,h.oS⟩
def XjQ (B:Nat):TV.d.Sm B:=Xj8 B
def XjR (w:d7):OE w TV:=⟨EC _,EC _,EC _,EC _⟩
def eE:Gn TV.d=true:=by decide
def Js :Df prog 145 [.agg TV.c.toArray] Tr [] (λv:d0=>.tuple #[v,aa 0]) Tr (λv=>[AG v 5 dt EX]):=by
 intro w n i;refine E0 func145 I i ?_;refine Y I<|Z I<|AT I I I I<|λj=>Ce TV.c I<|Nh I<|A I<|Ad<|Y I<|U I nP<|Z I<|E1 (JK TV I<|XjQ _) I call216 (λ_ _=>XjR _)<|λ_ _=>U I (Qt I)<|G<|Sb 9 false I (by rw[eE];rfl)<|Ab I<|Ah<|Ks<|LZ (rg 5) 162 _ I St.drawn Ih<|Ht Bj I OQ I<|Dq I (Aj I Pq I uP I)<|Dq I Zx<|Sz I<|KC I<|R I I uW<|AN<|Ks<|Y I<|N Bj I Z4 I<|Lo G4 0 I<|G<|Am I<|LZ (rg 5) 162 _ I St.drawn Ih<|Ht Bj I RQ I<|Dq I (Aj I UN I uP I)<|Dq I (Fw I O8 I) ?_
 refine Sz I<|KC I<|R I I uW<|AN<|Ks<|LZ [0,1,2,3,4,5,6,9,7,8,10,11] 439587 (λe=>(Ac j 135 TV.c).at e) I St.drawn uP<|Md 2 I<|Dq I (Br (p:=0) I U3 U5 I<|BX A2)<|Ht Bj I DS I<|Dq I jv<|Dq I (Fw I BH I)<|Dq I (Br (p:=0) I U3 U5 I<|BX A2)<|Dq I (AH TV.c I AV AK I Ih (I)<|I)<|MX I<|As (sz:=1) [.tmp 18,.tmp 20,.tmp 24,.const<|ab 0] I I I I I O7 Z5 I zeroValue5 I<|λq=>Ai uq<|Sj dt [1,0,0,0] I I<|MX I<|I4 (E:=AI .u8) (m:=4) (a0:=(0:Int)) I I I O7 U3 Gt I I I I I (by simp only[Rp];simp) A3<|λg=>Ba (l':=[1,0,0,0]++List.replicate 4 (0:Int)) (I)<|Ai uq<|MX I<|E1 (Xfw g) I call217 Tt<|λ_ _=>Ai uq<|KC I<|R I I uW<|AN<|Ks ?_
 have d:([1,0,0,0]++List.replicate 4 (0:Int)).length=8:=rfl;refine Cr I<|C 2 I<|U I (AM I O7 I ur)<|U I (Ci I I I A3)<|LH 32 (aa ((248:Nat):Int)) I Y9<|Z I<|I4 (E:=AI .u8) (m:=248) (a0:=(0:Int)) I I I O7 U3 Gt I I I I I (by simp only[Rp];simp) A3<|λo=>Ba (l':=EW) (Nj)<|A I<|Ad<|Dk (by rw[FB];decide)<|λf cap pre x k z y=>?_
 subst k;rw[FB] at z y;rw[FB];have b:(pre++dt.flat EW++x).length=pre.length+256+x.length:=by rw[pK,pK,Enc.oU,FB];rfl
 refine LZ (rg 5) 189 (λe=>(Ac f 5<|pre++dt.flat EW++x).at e) I St.drawn uP<|Dm I<|Dq I (DQ 4 I O7 Z5 I I I J)<|Dm I<|LH 35 (.slice (some ⟨f,pre.length+4,none⟩) 252<|cap-4) I (by rw[pQ<|show ¬cap=4 by omega])<|MX I<|AX (Gy EW<|by rw[FB];decide) I I I call218 I (λ_ h=>by have:=Eh wG dt EW pre.length cap pre x I I (by rw[FB];exact z);rwa[FB] at this)<|λl _=>Ai uq ?_
 have a:(le (Gb EW) 4).length=4:=BE _ _;refine WA ?_;rintro⟨sa,sc,rfl⟩;exact AD<|KC I<|Hw (E:=AI .u8) (sa:=sa) (sl:=(le (Gb EW) 4).length) (sc:=sc) (sc':=sc) (m:=le (Gb EW) 4) 4 I I I O7 Z5 I I dY (λ_ h=>by have:=h.rd 1 rfl;rw[a] at this;exact this) (by rw[b];show pre.length+4+4*1<=_;omega)<|Bb (T9 pre x)<|AN<|Ks<|F6 (E:=AI .u8) (len:=256) (cap:=cap) EX pre x I Ni J z y<|Cr I<|C 2 I<|A I<|s<|Bw (rs:=[.tmp 2,.tmp 3]) I I<|λ_ h=>⟨_,rfl,T0,h.sublist<|tA.2<|sj _⟩
def LJ (l:bf) (x:l.length<=65536):Df prog 228 [va] (λw=>Ec w va dt l) [] (λv:d0=>v) Tr (λv=>[AG v 5 dt l]):=by
 intro w z d;obtain⟨a,c,rfl⟩:=FK z;refine E0 func228 I d<|Y I<|A I<|Ad<|Y I<|r I<|U I (Hq I O7 I I)<|G<|Pre.PY 4 I (λx=>?_)<|λx=>?_
 .rw[ti] at x;subst x;have y:=FQ z;subst y;exact Am I<|Y I<|A I<|s<|Ag<|row0 5 dt none vI
 refine Ab I (Ah<|Kt<|Y I<|Z I<|As (sz:=1) [] I I I I I O7 Z5 I zeroValue5 I<|λb=>Sj dt [] I I<|r I<|Z I<|Ap O7 O7 Gt I z.kp A8<|λv=>A I<|s ?_);rw[qU];exact uc
def GC (l:bf):Df prog 229 [va,vb] (λw=>Ec w va dt l/\Ec w vb dt l) [] (λ_:Unit=>.bool true) Tr (λ_=>[]):=by
 intro w x a;obtain⟨z,y⟩:=x;refine E0 func229 I a ?_;exact Y I<|A I<|Y I<|r I<|U I (Gu I O7 U5 U9 I z.kp)<|r I<|U I (Gu I O7 U5 U9 I y.kp)<|U I (me I I I) zn
def XjS (vf:d0):Df prog 230 [aa 0,vf] Tr [] (λ_:Unit=>C0) Tr (λ_=>[]):=by
 intro w y x;refine E0 func230 I x<|Y I<|A I<|Y I<|A I<|Ad<|Y I<|C 2 I<|G<|Af ?_;refine Bm (λ(u:Unit)=>[(5,C0),(6,aa 0),(7,aa 0)]) (λ(u:Unit)=>St w [] []) (λ(u:Unit)=>True) (λ(u:Unit)=>0) (()) trivial (Si I) Ih (λu _=>Y I<|U I (Ql I)<|Ns<|Sb 8 false I (I)<|bP ?_);exact λ_ h=>⟨(),rfl,T0,h⟩
def XjT (vf:d0):Df prog 236 [aa 0,vf] Tr [] (λ_:Unit=>C0) Tr (λ_=>[]):=by
 intro w y x;refine E0 func236 I x<|Y I<|A I<|Y I<|A I<|Ad<|Y I<|C 2 I<|G<|Af ?_;refine Bm (λ(u:Unit)=>[(5,C0),(6,aa 0),(7,aa 0)]) (λ(u:Unit)=>St w [] []) (λ(u:Unit)=>True) (λ(u:Unit)=>0) (()) trivial (Si I) Ih (λu _=>Y I<|U I (Ql I)<|Ns<|Sb 8 false I (I)<|bP ?_);exact λ_ h=>⟨(),rfl,T0,h⟩
def Xez:Df prog 167 [vb] (λw=>Ec w vb dt EX) [] (λ_:Unit=>.tuple #[.agg TV.c.toArray,aa 0]) Tr (λ_=>[]):=by
 intro w d o;have b:=Ni;obtain⟨g,i,rfl⟩:=FK d;refine E0 func167 I o<|Cs I<|LW I<|Ax I I I zeroValue135<|λr=>Ce NZ.c I<|Ak I<|Ad<|Cs I<|Lm I<|Lq I (AM I O7 I d.kp)<|Lq I (Qn I)<|Nk<|Sb 13 false I (by rw[b];rfl)<|Ab I<|Ah<|Kt<|Cs I<|Lm I<|LW I<|AX (LJ EX Ym) I I I call228 I d.kp<|λt _=>Ak I<|Cs I<|Lm I<|Dk Ym<|λp cap pre y q z e=>?_
 subst q;rw[b] at z e;rw[b];have f:=FB;have j:(pre++dt.flat EX++y).length=pre.length+256+y.length:=by rw[pK,pK,Enc.oU,b];rfl
 refine Lq I (Ik (E:=AI .u8) (l:=EX) 4 8 I O7 Z5 I (λ_ h=>by have:=Eh wG dt EX pre.length cap pre y I I (by rw[b];exact z);rwa[b] at this) I I I I A2 Ym)<|LH 18 (.slice (some ⟨p,pre.length+4,none⟩) 4<|cap-4) I ZGn<|LW I<|Xa7 I I O7 Gt I I I I (by rw[j];omega)<|Bb (XgM pre y)<|Ns<|Ad<|LZ [0,2,3,1,4,5] 675 (λm=>Ec m (.slice g EX.length i) dt EX) I St.drawn d.kp<|Md 2 I<|Dq I (Ik 4 8 I O7 Z5 I Ih I I I I A1 A1)<|MX I<|AX (Gy EW<|by rw[f];decide) I I I call218 I (λ_ h=>(by have:=Eh wG dt EW pre.length cap pre y I I (by rw[f];exact z);rwa[f] at this))<|λs _=>Ai d.kp<|KC I<|E1 (GC<|le (Gb EW) 4) I call229 (λ_ h=>⟨h.rd 0 rfl,by have:=Cg (d.keep h A3) (lo:=4) (hi:=8) A2 Ym;rwa[XhF] at this⟩)<|λ_ _=>KC I<|OC I I (Qt I)<|AN<|Kt<|Ab I<|Ah<|Kt<|Cs I<|Lm I<|Lq I (AS ([.slice g EX.length i,aa 8,.bool false]) I I uX)<|LW I<|AT I I I I ?_
 intro n;refine Ce [.slice g EX.length i,aa 8,.bool false] I<|Ak I<|Ad<|LZ (rg 17) 92470734 (λm=>Ec m (.slice g EX.length i) dt EX) I St.drawn d.kp<|Dm I<|Dq I (Aw 0 I O7 Z5 I Ih I I)<|Dq I (AO 0 0 I G5 I I Ih XjO I)<|Dq I (Qe I)<|Dq I dK<|Dm I<|Dq I (Aw 1 I O7 Z5 I Ih I I)<|Dq I (AO 1 0 I G5 I I Ih jN I)<|Dq I (Br I U5 U3 I zW)<|Dm I<|Dq I (Aw 2 I O7 Z5 I Ih I I)<|Dq I (AO 2 0 I G5 I I Ih XjP I)<|Dq I (Br I U5 U3 I zW)<|MX I<|Ax I I I zeroValue135<|λu=>Ce NZ.c I<|Ai d.kp<|MX I<|SW AK I Nc<|Ai d.kp<|Sz I<|KC I<|OC I I uW<|AN<|Ks<|Cs I<|EJ Bj I Z4 I<|Lo G4 0 I<|Nk<|Am I<|Cr I<|Mv 2 I<|Lq I (BU (fn:=.func 0) (vs:=#[pV n]) (us:=#[]) 231 I (λa k=>by simp[k.eval (x:=.tmp 45) rfl]) Vu)<|LW I<|E1 (XjS _) I call230 Tt ?_
 intro _ _;refine EJ Bj I RQ I<|LW I<|AB I I RQ I I I dA<|Ce TV.c I<|Nk<|Cs I<|Mv 2 I<|Lq I (BU (fn:=.func 0) (vs:=#[pV n]) (us:=#[]) 237 I (λa k=>by simp[k.eval (x:=.tmp 61) rfl]) Vu)<|LW I<|E1 (XjT _) I call236 Tt<|λ_ _=>EJ Bj I DS I<|LW I<|AB I I DS I I I Yj<|Ce TV.c I<|Ns<|Cs I<|Lq I nP<|LW I<|AX Js I I I call145 I Tt<|λv _=>Lm I<|Mv 3 I<|Ak I<|Cs I<|Mv 2 I<|EJ JB I Z4 I<|Lo G4 2 I<|Mv 5 I<|Sb 78 false I (I)<|Mv 2 I<|LW I<|E1 (GC EX) I call229 (λ_ h=>⟨h.rd 0 rfl,d.keep h A3⟩) ?_
 intro _ _;exact Mv 2 I<|Nk<|Ab I<|Ah<|Kt<|Cs I<|Lq I (Cq TV.c AV AK 1 I (I)<|I)<|B7<|LW I<|SW AK I Nc<|Ak I<|Al<|C1 I wW (id I) uZ
structure Bk where
 l:bf
 len:l.length=256
def Bk.zero:Bk:=⟨List.replicate 256 0,s9 ..⟩
def Bk.c (b:Bk):bi:=b.l.map<|.int .u8
def Bk.one (b:Bk):∀v∈b.c,v.oneCell'=true:=λv h=>by
 obtain⟨z,_,rfl⟩:=qj.1 h;rfl
def Bk.oQ (b:Bk):b.c.length=256:=by unfold Bk.c;rw[qY,b.len]
def Bk.enc:Enc Bk:=⟨256,Bk.c,Bk.oQ,Bk.one,by decide⟩
def Bk.flat (b:Bk):dt.flat b.l=b.c:=Hx b.l
structure OH where
 bl:List Bk
 us:bo
structure OH.Ok (s:OH):Prop where
 len:s.bl.length=s.us.length
 n1:1<=s.us.length
 n256:s.us.length<=256
namespace OH
def is (s:OH) (jd:Int):Bool:=decide (0<=jd)&&decide (jd<s.us.length)&&s.us.getD jd.toNat false
def fr (s:OH):Option Nat:=B8 (λu=>!u) s.us
def alloc (s:OH) (k:Nat):OH:=⟨s.bl.set k Bk.zero,s.us.set k true⟩
def put (s:OH) (jd:Nat) (b:Bk):OH:=⟨s.bl.set jd b,s.us⟩
def used (s:OH):bm:=(List.range s.us.length).filter<|λi=>s.us.getD i false
def left (s:OH):Nat:=s.us.length-s.used.length
end OH
abbrev SE (bs:Nat) (vB vU:d0) (s:OH):ci:=[Ac bs 161 [vB,vU],AG vB 279 Bk.enc s.bl,AG vU 4 D5 s.us]
def ZJ {s:OH} {k:Nat} (h:s.us[k]?=some u):s.is (k:Int)=u:=by
 have x:=(qp.1 h).1;unfold OH.is;rw[sT (show (0:Int)<=(k:Int) by omega),sT (show (k:Int)<(s.us.length:Int) by omega),rD,sY,h];rfl
def iz {s:OH} {x:Int} (h:¬(0<=x/\x<s.us.length)):s.is x=false:=by
 unfold OH.is;by_cases h0:0<=x
 .rw[sS<|show ¬x<(s.us.length:Int) from λy=>h ⟨h0,y⟩,tu];rfl
 rw[sS h0];rfl
def Xbz {l:bo} (h:l[i]?=some u):(List.range<|i+1).filter (λi=>l.getD i false)=(List.range i).filter (λi=>l.getD i false)++(if u then [i] else []):=by
 rw[tp,tq];congr 1;have:l.getD i false=u:=by rw[sY,h];rfl
 simp only[tH,List.filter_nil,this]
section
variable {P:d8} {n:Nat} {L:Env} {X:aU} {o:Oper} {Q:aB} {K:aO}
variable {w0:d7} {D:bm} {H:ci} {α:Type} {E:Enc α} {l:List α} {v:d0}
def Xbg {t:d4} {i:d5} {k:d6} {p:Int} (j y:Nat) (f:o.op=.indexAddr t x i) (g:P.underlying t=some (.slice e)) (r:∀w,(sizeOf e).run P w=.ok E.sz w) (d:ev L x=some v) (m:∀w,X w->∃l:List α,l.length=y/\Ec w v E l) (hi:ev L i=some (.int k p)) (c:p=(j:Int)) (hj:j<y) :
 MV P n L X o (.pointer<|some ⟨blk v,Gl v+j*E.sz,none⟩):=λa w b q=>by
 obtain⟨l,s,h⟩:=m w q
 exact Aw (X:=λz=>z=w) j f g r d (λz e=>by subst e;exact h) hi c J a w b rfl
def XiN {F:Enc β} {w:d7} {j c:Nat} {a:α} {ms:List β} (h:Ec w v E l) (z:l[j]?=some a) (hm:ms.length=m) (b:m<=c) (y:F.flat ms=E.f a):Ec w (.slice (some ⟨blk v,Gl v+j*E.sz,none⟩) m c) F ms:=by
 subst hm;refine⟨_,c,rfl,b,.inr ⟨blk v,Gl v+j*E.sz,rfl,λk u x=>?_⟩⟩;rw[y] at x;exact PD h z x
def Xfx {F:Enc β} {ms:List β} {t ty:d4} {y:d5} {J:d0} {off dn dc:Nat} (j:Nat) (c:α) {a:α} (V:o.op=.call ⟨.builtin .copy,#[y,x],#[t,tx]⟩) (hd:o.dst=some d) (u:d.blt n) (X:P.underlying t=some (.slice e)) (O:∀w,(sizeOf e).run P w=.ok F.sz w)
 (N:ev L y=some (.slice (some ⟨blk v,off,none⟩) dn dc)) (g:off=Gl v+j*E.sz) (q:ev L x=some J) (U:∀w,St w0 D (AG v ty E l::H) w->Ec w J F ms) (hm:ms.length=dn) (G:F.flat ms=E.f c) (W:l[j]?=some a)
 (h:Pre n ((d,aa (dn:Nat))::L) (St w0 D<|AG v ty E (l.set j c)::H) K):Nl P n L (St w0 D<|AG v ty E l::H) o Q K :=
 Nl.val (β:=Unit) (λ_=>aa (dn:Nat)) Tr (λ_=>St w0 D<|AG v ty E (l.set j c)::H) hd u (λac w C M=>by
  have hj:=(qp.1 W).1
  have Y:=U w M
  obtain⟨b,cap,pre,post,hv,r,R,T⟩:=Ii M A1
  subst hv
  have z:=E.oU l
  have k:(j+1)*E.sz<=l.length*E.sz:=qy _ A1
  rw[pW,qz] at k
  have B:(F.flat ms).length=ms.length*F.sz:=F.oU ms
  have s:(F.flat ms).length=E.sz:=by rw[G,E.len]
  have i:min ms.length dn=ms.length:=A1
  have m:off+min ms.length dn*F.sz<=(pre++E.flat l++post).length:=by
   rw[i,<-B,s];subst g;simp only[Gl,pK,z];omega
  obtain⟨w',p,A⟩:=Xa6 (P:=P) (ty:=o.type) (tx:=tx) (dc:=dc) X O T Y m;rw[i,tg] at A
  have Nn:Sep.splice (pre++E.flat l++post) off (F.flat ms)=pre++E.flat (l.set j c)++post:=by
   subst g;rw[G];simp only[Gl];rw[Vf _ _ _<|by simp only[pK,z,E.len];omega]
   have Z:l.set j c=l.take j++[c]++l.drop (j+1):=by
    rw[sJ];simp[hj]
   rw[Z,E.pe,E.pe,<-E.XI,<-E.eY,pW,qz,E.pg,E.flat_nil,sG,E.len]
   have S:(pre++E.flat l++post).take (pre.length+j*E.sz)=pre++(E.flat l).take (j*E.sz):=by
    rw[qQ,sx,sK<|by rw[z];omega]
   have t2:(pre++E.flat l++post).drop (pre.length+j*E.sz+E.sz)=(E.flat l).drop (j*E.sz+E.sz)++post:=by
    rw[qQ,qS,sA,sL<|by rw[z];omega]
   rw[S,t2];simp only[qQ]
  rw[Nn] at A;refine⟨(),w',?_,T0,?_⟩
  .have:min ms.length dn=dn:=by omega
   rw[this] at p;simp only[blk] at N;simp[execOp,V,resolve,invoke,builtin,C.eval N,C.eval q,p]
  have:=DB (cap:=cap) A A1 (by simpa using r) (by simpa using R)
  simpa using this) Xk
end
def XgN (pre post:bi) (b:Bk):Sep.splice (pre++dt.flat (List.replicate 256 0)++post) pre.length (dt.flat b.l)=pre++dt.flat b.l++post :=
 Sep.XP _ _ pre post<|by rw[Enc.oU,Enc.oU,b.len,s9]
def Ss {s:OH} (z:s.Ok) (bs:Nat) (a b:d0) (y:Int):Df prog 219 [pV bs,aa y] Tr (SE bs a b s) (λ_:Unit=>.bool<|s.is y) Tr (λ_=>SE bs a b s):=by
 intro w i c;refine Ey func219 I c<|Ad ?_;have f:=z.len;have g:=z.n256;refine Cr I<|A I<|Y I<|C 3 I<|CB 7 I (λd=>?_)<|λd=>?_
 .refine C 3 I (N PK I Ww I<|Lo isAgg159 0 I<|U I (AM I De I ue)<|C 3 I<|CB 16 I (λe=>?_)<|λe=>?_)
  .obtain⟨k,rfl⟩:=pB (show 0<=y by omega);obtain⟨u,x⟩:=gE s.us k;exact C 2 I<|N PK I Ww I<|Lo isAgg159 0 I<|r I<|U I (Aw k I De Z4 I ue I I)<|U I (AO k 0 I G4 I I ue x I)<|U I (Qy I)<|A I<|Al<|Av I I<|λ_ h=>⟨(),congrArg Eb (ZJ x).symm,T0,h⟩
  exact C 8 I ZDV
 exact C 17 I ZDV
def XgO {s:OH} (c:s.Ok) (bs:Nat) (d f:d0) {k:Nat} {bk:Bk} (e:s.us[k]?=some true) (a:s.bl[k]?=some bk):Df prog 166 [pV bs,aa (k:Int)] Tr (SE bs d f s) (λv:d0=>.tuple #[v,aa 0]) Tr (λv=>AG v 5 dt bk.l::SE bs d f s):=by
 intro w q g;refine Ey func166 I g<|Ad ?_;have i:=c.len;have j:=c.n256;have o:=(qp.1 a).1;refine Cr I<|Nh I<|A I<|Ad<|Y I<|C 2 I<|Z I<|B5 (Ss c bs d f k) I I I call219 I Tt<|λ_ _=>U I (Qt I)<|G<|Sb 10 false I (by rw[ZJ e];rfl)<|Ab I<|Ah<|Kt<|Y I<|Z I<|CY dt (0:Int) 256 I I I O7 Gt I I I I I I I (by simp only[Rp];decide) A2<|λvb=>Dk (by rw[s9];decide)<|λp cap pre x n z y=>?_
 subst n;rw[s9] at z y;rw[s9];refine A I<|Y I<|C 3 I<|N PK I sizeOf158 I<|Lo isAgg158 1 I<|r I<|U I (Aw k I YJ sizeOf279 I ue I I)<|U I (E7 I underlying279 Z5 I) ?_;have b:(pre++dt.flat (List.replicate 256 0)++x).length=pre.length+256+x.length:=oP;exact Z I<|Hw (E:=AI .u8) (sc':=256) (m:=bk.l) 256 I I I O7 Z5 I I I (λ_ h=>XiN (h.rd 2 I) a bk.len (qb _) bk.flat) (by rw[b];show pre.length+256*1<=_;omega)<|Bb (XgN pre x bk)<|F6 (E:=AI .u8) (len:=256) (cap:=cap) bk.l pre x I bk.len J z y<|G<|Y I<|C 2 I<|A I<|Al<|Bw (rs:=[.tmp 4,.tmp 5]) I I jU
def Xfy {s:OH} (z:s.Ok) (bs:Nat) (a c:d0) {vb:d0} {k:Nat} {bk:Bk} (nb:Bk) (b:s.us[k]?=some true) (x:s.bl[k]?=some bk):Df prog 146 [pV bs,aa (k:Int),vb] Tr (AG vb 5 dt nb.l::SE bs a c s) (λ_:Unit=>aa 0) Tr (λ_=>AG vb 5 dt nb.l::SE bs a c (s.put k nb)):=by
 intro w i d;refine Ey func146 I d<|Ad ?_;have e:=z.len;have f:=z.n256;have g:=(qp.1 x).1;have y:=nb.len;refine Cr I<|A I<|Ad<|Af<|Y I<|C 2 I<|Pm [1,1,1] I<|Z I<|B5 (Ss z bs a c k) I I I call219 I Tt<|λ_ _=>U I (Qt I)<|A I<|Sb 7 false I (by rw[ZJ b];rfl)<|Ab I<|Y I<|r I<|U I (AM I O7 I yp)<|U I (Qn I)<|A I<|Sb 12 false I zd<|Ab I<|Ah<|Au<|Kt<|Y I<|C 2 I<|N PK I sizeOf158 I<|Lo isAgg158 0 I<|r I<|U I (Aw k I YJ sizeOf279 I RF I I)<|U I (E7 I underlying279 Z5 I)<|r I<|AD ?_
 exact Z I<|Xfx (F:=AI .u8) (ms:=nb.l) k nb I I I O7 Z5 I I I yp y nb.flat x<|G<|Y I<|A I<|Al<|Pm [3,1] I LF
def Su {s:OH} (g:s.Ok) (bs:Nat) (d b:d0):Df prog 103 [pV bs] Tr (SE bs d b s) (λ_:Unit=>(match s.fr with|some k=>.tuple #[aa (k:Int),aa 0]|none=>.tuple #[aa 0,aa 3])) Tr (λ_=>SE bs d b (match s.fr with|some k=>s.alloc k|none=>s)):=by
 intro w q m;refine Ey func103 I m<|Ad ?_;have o:=g.len;have p:=g.n256;refine Cr I<|Nh I<|A I<|Ad<|Y I<|C 2 I<|N PK I Ww I<|Lo isAgg159 0 I<|U I (AM I De I ue)<|uG ?_;refine Bm (λ(i:Nat)=>[(0,pV bs),(9,b),(10,aa (s.us.length:Int)),(11,aa (i:Int))]) (λ(i:Nat)=>St w (dom<|SE bs d b s)<|SE bs d b s) (λ(i:Nat)=>i<=s.us.length/\∀z∈s.us.take i,(!z)=false) (λ(i:Nat)=>s.us.length-i) (0) ⟨qc _,A3⟩ (Si I) Ih<|λi l=>Ad ?_
 obtain⟨hi,y⟩:=l;refine Cr I<|U I (Ql I)<|Ns<|CB 12 I (λn=>?_)<|λn=>?_
 .obtain⟨u,e⟩:=gE s.us i;obtain⟨bk,j⟩:∃u,s.bl[i]?=some u:=⟨_,pE J⟩
  refine Am I<|Ah<|Ks<|Af<|Y I<|r I<|U I (Aw i I De Z4 I ue I I)<|U I (AO i 0 I G4 I I ue e I)<|Nh I<|A I<|Y I<|C 2 I<|G<|CB 17 I (λa=>?_)<|λa=>?_
  .subst a;have x:s.fr=some i:=Db e rfl y;refine Am I<|Ad<|D8 [(0,O),(1,O),(2,O),(3,O),(4,O),(5,O),(6,O),(7,O),(8,O),(9,O),(10,O),(11,O),(12,V),(13,W),(14,W)] [13,14] [(_,O),(_,O),(_,O),(_,O),(_,O),(_,O),(_,O),(_,O),(_,O),(_,O),(_,O),(_,O),(_,V),(_,W),(_,W)] (λf=>(Ac bs 161 [d,b]).at f/\Ec f d Bk.enc s.bl/\∃us:bo,us.length=s.us.length/\Ec f b D5 us) rfl rfl rfl rfl St.drawn (λ_ h=>⟨h.at 0 rfl,h.rd 1 rfl,_,by first|rfl|(rw[sI]),h.rd 2 rfl⟩) (Md 2 I<|Ht PK I Ww I<|Dq I (Aj I isAgg159 I uO I)<|Md 3 I<|Ht PK I sizeOf158 I<|Dq I (Aj I isAgg158 I uO I)<|Dm I<|Dq I (AS Bk.zero.c I I uX)<|Dq I (Xbg i s.us.length I De Z4 I Va I I J)<|AQ<|MX I<|DR i 0 true I I Z4 I I I e A2 I<|Ai (λ_ h=>⟨h.at 1 rfl,h.rd 2 rfl,_,by first|rfl|(rw[sI]),h.rd 0 rfl⟩)<|KC I<|R I I (Aw i I YJ sizeOf279 I ue I I)<|AQ<|KC I<|EF i Bk.zero I I sizeOf279 I I I I J ?_);exact AN<|Kt<|Y I<|C 2 I<|A I<|Al<|AA<|Ag<|Ag<|AA<|Ag<|Pm [2] I ZCb
  subst a;refine Tm ?_;exact AJ (i+1) J ⟨J,Fb y e rfl⟩ (Si I) Jx
 have x:s.fr=none:=by unfold OH.fr;rw[pZ J] at y;exact DG y
 exact Ab I<|AP<|Aa<|Aa<|Ar<|Kt<|Y I<|Nh I<|A I<|Al ZCb
def nI (l:bm):bf:=l.map (λk:Nat=>(k:Int))
def ID (l:bm):(nI l).length=l.length:=qY ..
def XgP {s:OH} {i:Nat} (h:s.us[i]?=some u):nI ((List.range<|i+1).filter<|λi=>s.us.getD i false)=nI ((List.range i).filter<|λi=>s.us.getD i false)++(if u then [(i:Int)] else []):=by
 rw[Xbz h];unfold nI;rw[qR];cases u<;>rfl
def Xaj {s:OH} (d:s.Ok) (bs:Nat) (a z:d0):Df prog 34 [pV bs] Tr (SE bs a z s) (λv:d0=>v) Tr (λv=>AG v 3 ds (nI s.used)::SE bs a z s):=by
 intro w o f;refine Ey func34 I f<|Ad ?_;have j:=d.len;have l:=d.n256;refine Cr I<|A I<|Y I<|A I<|Ad<|Y I<|C 2 I<|N PK I Ww I<|Lo isAgg159 0 I<|U I (AM I De I ue)<|r I<|G<|YA ?_;refine B6 (λ(i:Nat) (v:d0)=>[(0,pV bs),(3,v),(9,z),(10,aa (s.us.length:Int)),(11,aa (i:Int))]) (λ(i:Nat) (v:d0)=>St w (dom<|SE bs a z s)<|AG v 3 ds (nI<|(List.range i).filter<|λi=>s.us.getD i false)::SE bs a z s) (λ(i:Nat) (v:d0)=>i<=s.us.length) (λ(i:Nat) (v:d0)=>s.us.length-i) (0) (.slice none 0 0) (qc _) (Si I) Ih<|λi v hi=>Ad ?_
 have e:((List.range i).filter<|λi=>s.us.getD i false).length<=i:=by have:=tm (λi=>s.us.getD i false)<|List.range i;rwa[tr] at this
 have k:=ID<|(List.range i).filter<|λi=>s.us.getD i false
 refine Cr I<|U I (Ql I)<|Ns<|CB 12 I (λg=>?_)<|λg=>?_
 .obtain⟨u,c⟩:=gE s.us i;have y:=XgP c;refine Am I<|Ah<|Ks<|Af<|Y I<|r I<|U I (Aw i I De Z4 I yp I I)<|U I (AO i 0 I G4 I I yp c I)<|Nh I<|A I<|Y I<|r I<|G<|Pre.PY 16 I (λx=>?_)<|λx=>?_
  .subst x;refine Am I<|Cr I<|C 2 I<|Z I<|As (sz:=1) [.tmp 18] I I I I I KI Z3 I zeroValue3 I<|λn=>AD<|Z I<|Ap KI KI CD I (λ_ h=>AR kj ds [(i:Int)] I I) A8<|λm=>Ba (y.symm)<|zI ?_
   exact AJ ((i+1,m)) A4 A4 (Si I) Jx
  subst x;refine Tm ?_;exact AJ ((i+1,v)) A4 A4 (Si I)<|λ_ h=>by dsimp only;rw[y];simpa using h
 have b:i=s.us.length:=by omega
 subst b;exact N0
def Xfz {s:OH} (a:s.Ok) (bs:Nat) (y x:d0):Df prog 35 [pV bs] Tr (SE bs y x s) (λ_:Unit=>aa (s.left:Int)) Tr (λ_=>SE bs y x s):=by
 intro w j c;refine Ey func35 I c<|Ad ?_;have d:=a.len;have f:=a.n256;refine Cr I<|A I<|Ad ?_;have e:s.used.length<=s.us.length:=by have:=tm (λi=>s.us.getD i false)<|List.range s.us.length;rwa[tr] at this
 have z:=ID s.used;refine LZ (rg 10) 40095 (λb=>(Ac bs 161 [y,x]).at b/\Ec b x D5 s.us) I St.drawn (Hb 0 2 I)<|Md 2 I<|Ht PK I Ww I<|Dq I (Aj I isAgg159 I uO I)<|Dq I (AM I De I uS)<|Dm I<|MX I<|OF (Xaj a bs y x) I I I call34 I Tt<|λk _=>Pre.fact uC ?_
 rintro⟨la,g,rfl⟩;exact Ai (Hb 1 3 I)<|Dq I Zx<|Dq I yw<|KC I<|R I I uW<|AN<|Kt<|Al<|Ae<|Av I I<|λ_ h=>⟨(),congrArg Ei (by unfold OH.left;rw[z];omega),T0,h⟩
def XhG {n:Nat} (g:1<=n) (f:n<=256):Df prog 100 [aa (n:Int)] Tr [] (λr:Nat×d0×d0=>.tuple #[.pointer<|some ⟨r.1,0,none⟩,aa 0]) Tr (λr=>SE r.1 r.2.1 r.2.2 ⟨List.replicate n Bk.zero,List.replicate n false⟩):=by
 intro w e d;refine E0 func100 I d<|Y I<|Nh I<|A I<|Ad<|Y I<|C 3 I<|Sf 6 I J<|Lm I<|U I vd<|U I (Qz I)<|G<|Sf 9 I J<|Ab I<|Ah<|Ks<|DP Tr I St.drawn<|Aq 0 I Tt uf<|Aq 2 I Tt uf<|QZ 1 3 I ?_ ?_
 .refine CY Bk.enc Bk.zero n I I I YJ Xbl I I I I I I I (by simp only[Xcc];omega) J (λb=>Pre.fact uC ?_);rintro⟨y,z,rfl⟩;refine Ai Tt<|Ay 3 I<|CY D5 false n I I I De Gs I I I I I I I (by simp only[Xdb];omega) J<|λc=>Pre.fact uC ?_
  rintro⟨a,x,rfl⟩;exact Ai Tt<|Aq 4 I Tt ZAN<|Ay 5 I<|AT I I I I<|λbs=>Ce [.slice y (List.replicate n Bk.zero).length z,.slice a (List.replicate n false).length x] I<|Ai Tt<|Aq 6 I Tt uW<|Aq 7 I Tt uW<|An<|Kt<|s<|Pm [0,1] I ZEQ
 refine CY D5 false n I I I De Gs I I I I I I I (by simp only[Xdb];omega) J (λc=>Pre.fact uC ?_);rintro⟨a,x,rfl⟩;refine Ai Tt<|Ay 1 I<|CY Bk.enc Bk.zero n I I I YJ Xbl I I I I I I I (by simp only[Xcc];omega) J<|λb=>Pre.fact uC ?_
 rintro⟨y,z,rfl⟩;exact Ai Tt<|Aq 4 I Tt ZAN<|Ay 5 I<|AT I I I I<|λbs=>Ce [.slice y (List.replicate n Bk.zero).length z,.slice a (List.replicate n false).length x] I<|Ai Tt<|Aq 6 I Tt uW<|Aq 7 I Tt uW<|An<|Kt<|s ZEQ
end Go.Proofs.YtloldofjddbjoaaGreat
namespace Go.Proofs.YtloldofjddbjoaaGreat.Lt
open Go.Sep Go.RowKit Tryz
variable {t x z:Int} {n k:Nat} {l:bf} {w:Bool} {α:Type}
abbrev Wt:=Int×Bool
structure La where
 pins:Int
 rd:bf
 wr:Int
 q:List Wt
def ins (t:Int) (l:bf):bf:=l.takeWhile (λx=>decide (x<t))++t::l.dropWhile (λx=>decide (x<t))
def Kg (m:La) (t:Int):Bool:=decide (0<=t/\m.wr≠t/\t∉m.rd/\t∉m.q.map Prod.fst)
def V4 (m:La) (w:Bool):Bool:=decide (m.wr = -1)&&(!w||decide (m.rd.length=0))
def Oa (m:La) (t:Int) (w:Bool):La:=if w then {m with wr:=t} else {m with rd:=ins t m.rd}
def Uz:List Wt->La->bf×La
 |[],m=>([],{m with q:=[]})
 |w::q,m=>if V4 m w.2 then (w.1::(Uz q<|Oa m w.1 w.2).1,(Uz q<|Oa m w.1 w.2).2) else ([],{m with q:=w::q})
def Uy (m:La):bf×La:=Uz m.q m
def VQ (m:La) (t:Int) (w:Bool):Bool:=Kg m t&&decide (m.q.length=0)&&V4 m w
def Qp (m:La) (t:Int) (w:Bool):La:=if VQ m t w then Oa m t w else m
def KZ (m:La) (t:Int) (w:Bool):La:={m with q:=m.q++[(t,w)]}
def UL (m:La) (t:Int) (w:Bool):La:=if Kg m t then (if VQ m t w then Oa m t w else KZ m t w) else m
def UH (m:La) (t:Int):La:={m with wr:=if m.wr=t then -1 else m.wr,rd:=m.rd.filter<|λx=>decide (x≠t),q:=m.q.filter<|λx=>decide (x.1≠t)}
def TT (m:La) (t:Int):bf×La:=if t<0 then ([],m) else Uy (UH m t)
def MJ (m:La) (t:Int):bf×La:=if t<0\/m.wr≠t then ([],m) else Uy (Oa {m with wr:=-1} t false)
def idleB (m:La):Bool:=V4 m true&&decide (m.q.length=0)&&decide (m.pins=0)
def newL:La:=⟨0,[],-1,[]⟩
def tasks (m:La):bf:=(if 0<=m.wr then [m.wr] else [])++(m.rd++m.q.map Prod.fst)
structure La.Ok0 (m:La):Prop where
 nd:(tasks m).Nodup
 nn:∀x∈tasks m,0<=x
 Ya:m.rd.Pairwise (·<·)
 wr : -1<=m.wr
 ex:0<=m.wr->m.rd=[]
structure La.Ok (m:La) (n:Nat):Prop extends La.Ok0 m where
 len:(tasks m).length<=n
 pn:0<=m.pins/\m.pins<=n
def La.Ok.mono {m:La} (h:m.Ok n) (x:n<=k):m.Ok k:=⟨h.toOk0,qM h.len x,h.pn.1,by have:=h.pn.2;omega⟩
def La.Ok.lens {m:La} (h:m.Ok n):m.rd.length<=n/\m.q.length<=n:=by
 have:=h.len;simp only[tasks,pK,qY] at this;omega
def La.Ok0.rn {m:La} (h:m.Ok0):m.rd.Nodup:=h.Ya.imp<|λh=>Int.ne_of_lt h
def La.Ok0.qn {m:La} (h:m.Ok0):(m.q.map Prod.fst).Nodup:=by
 have:=h.nd;simp only[tasks,su] at this;exact this.2.1.2.1
def La.Ok0.may {m:La} (h:m.Ok0) (t:Int) (y:0<=t):Kg m t=decide (t∉tasks m):=by
 have:=h.wr;unfold Kg tasks;rw[te];simp only[rB,not_or];by_cases hw:0<=m.wr
 .rw[pN hw];simp only[rU];exact⟨λx=>⟨λe=>x.2.1 e.symm,x.2.2⟩,λx=>⟨y,λe=>x.1 e.symm,x.2⟩⟩
 rw[pQ hw];exact⟨λx=>⟨rX,x.2.2⟩,λx=>⟨y,J,x.2⟩⟩
def fJ:newL.Ok 0:=⟨⟨A2,A2,List.Pairwise.nil,A2,λ_=>rfl⟩,A2,A2⟩
def Sw (t:Int) (l:bf):(ins t l).Perm (t::l):=by
 unfold ins;refine sQ.trans ?_;rw[List.takeWhile_append_dropWhile]
def kP:x∈ins t l↔x=t\/x∈l:=by rw[(Sw t l).mem_iff,pj]
def XiO:∀{i:Nat},i<=l.length->(∀k,k<i->l.getD k 0<t)->(∀(h:i<l.length),t<=l.getD i 0)->l.takeWhile (λx=>decide (x<t))=l.take i/\l.dropWhile (λx=>decide (x<t))=l.drop i:=by
 induction l with
 |nil=>intro i hi _ _;simp
 |cons x l ih =>
  intro i hi a z;cases i with
  |zero =>
   have:=z j;have b:¬x<t:=by simp at this;omega
   simp[b]
  |succ i =>
   have y:=a 0 J;simp at y;have:=ih (i:=i) jX (λk c=>by have:=a (k+1) J;simpa using this) (λh=>by have:=z sv;simpa using this);simp[y,this.1,this.2]
def XjU {i:Nat} (hi:i<=l.length) (x:∀k,k<i->l.getD k 0<t) (y:∀(h:i<l.length),t<=l.getD i 0):ins t l=l.take i++t::l.drop i:=by
 obtain⟨a,b⟩:=XiO hi x y;rw[ins,a,b]
def XhH {x:Int}:ins t (x::l)=if x<t then x::ins t l else t::x::l:=by
 unfold ins;by_cases h:x<t<;>simp[h]
def Nm:∀{l:bf},l.Pairwise (·<·)->t∉l->(ins t l).Pairwise (·<·)
 |[],_,_=>by simp[ins]
 |x::l,h,hn=>by
  rw[XhH]
  have a:=tQ.1 h
  simp only[pj,not_or] at hn
  split
  .rename_i hlt
   refine tQ.2 ⟨λy z=>?_,Nm a.2 hn.2⟩
   rcases kP.1 z with rfl|z
   .exact hlt
   .exact a.1 y z
  .rename_i hlt
   have b:t<x:=J
   refine tQ.2 ⟨λy z=>?_,h⟩
   rcases pj.1 z with rfl|z
   .exact b
   .exact Int.lt_trans b<|a.1 y z
def kZ {m:La}:V4 m w=true↔m.wr = -1/\(w=true->m.rd=[]):=by
 unfold V4;cases w<;>simp[List.length_eq_zero_iff]
def kN {m:La} {t:Int} (z:0<=t) (y:V4 m w):(tasks<|Oa m t w).Perm (t::tasks m):=by
 obtain⟨h,x⟩:=kZ.1 y;unfold Oa;cases w with
 |true=>simp[tasks,h,x rfl,z]
 |false =>
  simp only[tasks,h,r5,r9];simpa using (Sw t m.rd).append_right _
def Sx {m:La} (h:m.Ok0) (c:0<=t) (z:t∉tasks m) (b:V4 m w):(Oa m t w).Ok0:=by
 have a:=kN c b;obtain⟨f,d⟩:=kZ.1 b;refine⟨a.nodup_iff.2<|ss.2 ⟨z,h.nd⟩,λx y=>?_,?_,?_,?_⟩
 .rcases pj.1 (a.mem_iff.1 y) with rfl|y
  .exact c
  exact h.nn x y
 .unfold Oa;cases w with
  |true=>exact h.Ya
  |false=>exact Nm h.Ya<|λy=>z<|by simp[tasks,y]
 .unfold Oa;cases w<;>simp<;>omega
 unfold Oa;cases w with
 |true=>exact λ_=>d rfl
 |false=>intro e;simp at e;omega
def K0 (m:La) (t:Int) (w:Bool):(Oa m t w).pins=m.pins:=by unfold Oa;split<;>rfl
def kL (m:La) (t:Int) (w:Bool):(Oa m t w).q=m.q:=by unfold Oa;split<;>rfl
def yc {m:La} (h:m.Ok n) (y:0<=t) (z:t∉tasks m) (x:V4 m w):(Oa m t w).Ok (n+1) :=
 ⟨Sx h.toOk0 y z x,by rw[(kN y x).length_eq];simpa using h.len,by rw[K0];have:=h.pn;omega⟩
def Xdk (m:La) (t:Int) (w:Bool):(tasks<|KZ m t w).Perm (t::tasks m):=by
 have:tasks (KZ m t w)=tasks m++[t]:=by simp[tasks,KZ,qQ];rfl
 rw[this];exact List.perm_append_singleton t<|tasks m
def XhI {m:La} (h:m.Ok n) (b:0<=t) (a:t∉tasks m):(KZ m t w).Ok (n+1):=by
 have z:=Xdk m t w;refine⟨⟨z.nodup_iff.2<|ss.2 ⟨a,h.nd⟩,λx y=>?_,h.Ya,h.wr,h.ex⟩,by rw[z.length_eq];simpa using h.len,h.pn.1,by have:=h.pn.2;show m.pins<=_;omega⟩;rcases pj.1 (z.mem_iff.1 y) with rfl|y
 .exact b
 exact h.nn x y
def Xdr {m:La} (h:m.Ok n) (t:Int) (w:Bool):(UL m t w).Ok (n+1):=by
 unfold UL;split
 .rename_i hm;have x:0<=t:=by unfold Kg at hm;simp at hm;exact hm.1
  have y:t∉tasks m:=by rw[h.may t x] at hm;simpa using hm
  split
  .rename_i ho;unfold VQ at ho;simp only[qW] at ho;exact yc h x y ho.2
  exact XhI h x y
 exact h.mono J
def XjV (q:List Wt):∀(m:La) (x:List Wt),Uz q {m with q:=x}=Uz q m:=by
 induction q with
 |nil=>intro m x;rfl
 |cons w q ih =>
  intro m x;have e:Oa {m with q:=x} w.1 w.2={Oa m w.1 w.2 with q:=x}:=by unfold Oa;split<;>rfl
  have o:V4 {m with q:=x} w.2=V4 m w.2:=rfl;simp only[Uz,o,e,ih]
def XfA (m:La) (w:Wt) (q:List Wt):(tasks {m with q:=w::q}).Perm (w.1::tasks {m with q:=q}):=by
 simp only[tasks,qG];rw[<-qQ,<-qQ];exact sQ
def zN {m:La} {w:Wt} {q:List Wt} (h:La.Ok0 {m with q:=w::q}) (i:V4 m w.2):La.Ok0 {Oa m w.1 w.2 with q:=q}/\(tasks {Oa m w.1 w.2 with q:=q}).Perm (tasks {m with q:=w::q}):=by
 have a:=XfA m w q;have z:=ss.1<|a.nodup_iff.1 h.nd;have d:0<=w.1:=h.nn _<|a.mem_iff.2<|rW ..;have f:La.Ok0 {m with q:=q}:=⟨z.2,λx g=>h.nn x<|a.mem_iff.2<|sr _ g,h.Ya,h.wr,h.ex⟩;have e:Oa {m with q:=q} w.1 w.2={Oa m w.1 w.2 with q:=q}:=by unfold Oa;split<;>rfl
 have y:V4 {m with q:=q} w.2=true:=i;have b:=Sx f d z.1 y;have c:=kN d y;rw[e] at b c;exact⟨b,c.trans a.symm⟩
def XgQ (q:List Wt):∀m:La,(Uz q m).2.pins=m.pins:=by
 induction q with
 |nil=>intro m;rfl
 |cons w q ih=>intro m;simp only[Uz];split<;>simp[ih,K0]
def eI (q:List Wt):∀m:La,La.Ok0 {m with q:=q}->(Uz q m).2.Ok0/\(tasks (Uz q m).2).Perm (tasks {m with q:=q}):=by
 induction q with
 |nil=>intro m h;exact⟨h,.refl _⟩
 |cons w q ih =>
  intro m h;simp only[Uz];split
  .rename_i ho;obtain⟨y,a⟩:=zN h ho;obtain⟨x,z⟩:=ih (Oa m w.1 w.2) y;exact⟨x,z.trans a⟩
  exact⟨h,.refl _⟩
def XjW {m:La} (h:m.Ok n):(Uy m).2.Ok n:=by
 obtain⟨y,x⟩:=eI m.q m h.toOk0;exact⟨y,by unfold Uy;rw[x.length_eq];exact h.len,by unfold Uy;rw[XgQ];exact h.pn⟩
def yx {m:La} (h:m.Ok0) {t:Int} (y:0<=t):tasks (UH m t)=(tasks m).filter (λx=>decide (x≠t)):=by
 have:=h.wr
 have hm:∀q:List Wt,(q.filter<|λx=>decide (x.1≠t)).map Prod.fst=(q.map Prod.fst).filter (λx=>decide (x≠t)):=λq=>by
  rw[List.filter_map];rfl
 have z:(if 0<=(UH m t).wr then [(UH m t).wr] else [])=(if 0<=m.wr then [m.wr] else []).filter (λx=>decide (x≠t)):=by
  by_cases hw:m.wr=t
  .have:(UH m t).wr = -1:=by simp[UH,hw]
   rw[this];subst hw;simp[y]
  have:(UH m t).wr=m.wr:=by simp[UH,hw]
  rw[this];by_cases h0:0<=m.wr
  .simp[h0,hw]
  simp[h0]
 show (if 0<=(UH m t).wr then [(UH m t).wr] else [])++_=_
 rw[z];simp only[tasks,UH,tq,hm]
def YZ {m:La} (h:m.Ok n) {t:Int} (d:0<=t):(UH m t).Ok n:=by
 have c:=yx h.toOk0 d;have z:(tasks<|UH m t).Sublist (tasks m):=c▸List.filter_sublist;refine⟨⟨h.nd.sublist z,λx b=>h.nn x<|z.subset b,h.Ya.sublist List.filter_sublist,?_,?_⟩,qM z.length_le h.len,h.pn⟩
 .have:=h.wr;show -1<=(if m.wr=t then -1 else m.wr);split<;>omega
 intro a
 have y:0<=m.wr:=by
  have:0<=(if m.wr=t then -1 else m.wr):=a;split at this<;>omega
 show m.rd.filter _=[]
 rw[h.ex y];rfl
def XcM {m:La} (h:m.Ok n) (t:Int):(TT m t).2.Ok n:=by
 unfold TT;split
 .exact h
 exact XjW<|YZ h J
def Sy {m:La} (h:m.q=[]\/∃w q,m.q=w::q/\V4 m w.2=false):Uy m=([],m):=by
 obtain⟨p,r,x,q⟩:=m;rcases h with h|⟨w,q',h,z⟩
 .have y:q=[]:=h;subst y;rfl
 have y:q=w::q':=h;subst y;simp only[Uy,Uz,z];rfl
def O2 (m:La) (t:Int) (w:Bool) (q:List Wt):Oa {m with q:=q} t w={Oa m t w with q:=q}:=by unfold Oa;split<;>rfl
def XjX {m:La} {w:Wt} {q:List Wt} (h:m.q=w::q) (x:V4 m w.2):Uy m=(w.1::(Uy<|Oa {m with q:=q} w.1 w.2).1,(Uy<|Oa {m with q:=q} w.1 w.2).2):=by
 rw[O2];have e:=XjV q (Oa m w.1 w.2) q;simp only[Uy,h,Uz,x,qX];rw[e]
def XkV {m:La} {w:Wt} {q:List Wt} (h:m.Ok n) (y:m.q=w::q) (a:V4 m w.2):(Oa {m with q:=q} w.1 w.2).Ok n:=by
 have e:{m with q:=w::q}=m:=by rw[<-y]
 have x:La.Ok0 {m with q:=w::q}:=by rw[e];exact h.toOk0
 obtain⟨z,b⟩:=zN x a;rw[O2];refine⟨z,by rw[b.length_eq,e];exact h.len,?_⟩;show 0<=(Oa m w.1 w.2).pins/\(Oa m w.1 w.2).pins<=n
 rw[K0];exact h.pn
def kK {f:α->Int}:∀{l:List α} {k:Nat} {y:α},(l.map f).Nodup->l[k]?=some y->f y=t->l.filter (λx=>decide (f x≠t))=l.eraseIdx k
 |[],k,y,hn,hk,hy=>by simp at hk
 |x::l,0,y,hn,hk,hy=>by
  simp at hk;subst hk
  have a:=(ss.1 hn).1
  rw[List.filter_cons_of_neg<|by simp[hy]]
  simp only[List.eraseIdx_zero,List.tail_cons]
  exact List.filter_eq_self.2 (λz c=>by simp;rintro rfl;exact a<|hy▸tR c)
 |x::l,k+1,y,hn,hk,hy=>by
  have h:l[k]?=some y:=by simpa using hk
  have a:=ss.1 hn
  have b:f x≠t:=λe=>a.1<|by rw[e,<-hy];exact tR<|ry h
  rw[List.filter_cons_of_pos jZ,ta,kK a.2 h hy]
def O3 {f:α->Int} {l:List α} (h:t∉l.map f):l.filter (λx=>decide (f x≠t))=l :=
 List.filter_eq_self.2<|λz y=>by simp;rintro rfl;exact h<|tR y
def RU:Enc Wt:=⟨2,λw=>[aa w.1,.bool w.2],λ_=>rfl,λa u h=>by simp at h;rcases h with rfl|rfl<;>rfl,by decide⟩
def lH {y:Int} (h:x∉l.take k) (a:l[k]?=some y) (z:¬x=y):x∉l.take (k+1):=by
 rw[sH,a];simp;exact⟨h,z⟩
def XgR {l:List Wt} {y:Wt} (h:x∉(l.take k).map Prod.fst) (a:l[k]?=some y) (z:¬y.1=x):x∉(l.take<|k+1).map Prod.fst:=by
 rw[sH,a,qR,rB,not_or];exact⟨h,by simp;exact λe=>z e.symm⟩
def At (l:bf) (x z:Int):Prop:=(z = -1/\x∉l)\/∃k:Nat,z=(k:Int)/\l[k]?=some x
def gB (l:List Wt) (x z:Int):Prop:=(z = -1/\x∉l.map Prod.fst)\/∃(k:Nat) (y:Wt),z=(k:Int)/\l[k]?=some y/\y.1=x
def At.iff (h:At l x z):decide (0<=z)=decide (x∈l):=by
 rcases h with⟨rfl,h⟩|⟨k,rfl,h⟩
 .simp[h]
 have:=ry h;simp[this]
def gB.iff {l:List Wt} (h:gB l x z):decide (z<0)=decide (x∉l.map Prod.fst):=by
 rcases h with⟨rfl,h⟩|⟨k,y,rfl,h,e⟩
 .simp[h]
 have:=tR (f:=Prod.fst) (ry h);rw[e] at this;rw[te];exact⟨λa=>J,λa=>absurd this a⟩
def XgS (x:Int):Df prog 303 [aa x] Tr [] (λ_:Unit=>.bool false) Tr (λ_=>[]):=by
 intro w z y;refine E0 func303 I y ?_;exact Y I<|A I<|Y I<|C 3 I zn
def XgT (x:Int):Df prog 311 [aa x] Tr [] (λ_:Unit=>.bool false) Tr (λ_=>[]):=by
 intro w z y;refine E0 func311 I y ?_;exact Y I<|A I<|Y I<|C 3 I zn
def XgU (x y:Int):Df prog 302 [aa x,aa y] Tr [] (λ_:Unit=>.bool<|decide (x<y)) Tr (λ_=>[]):=by
 intro w a z;refine E0 func302 I z ?_;exact Y I<|A I<|Y I<|r I<|Z I<|E1 (XgT x) I call311 Tt<|λ_ _=>r I<|C 9 I xj
def index_spec {va:d0} (l:bf) (x:Int) (j:l.length<=65536):Df prog 157 [va,aa x] (λw=>Ec w va ds l) [] (λz:Int=>aa z) (λz=>At l x z) (λ_=>[]):=by
 intro w c g;refine E0 func157 I g<|lZ ?_;refine Bm (λ(k:Nat)=>[(0,va),(1,aa x),(7,aa (l.length:Int)),(8,aa (k:Int))]) (λ(k:Nat)=>St w [] []) (λ(k:Nat)=>k<=l.length/\x∉l.take k) (λ(k:Nat)=>l.length-k) (0) ⟨qc _,A3⟩ (Si I) Ih<|λk f=>Ad ?_
 obtain⟨i,b⟩:=f;refine Cr I<|U I (Ql I)<|Ns<|CB 9 I (λe=>?_)<|λe=>?_
 .obtain⟨y,d⟩:=gE l k;refine Am I<|Ah<|Ks<|Af<|Y I<|r I<|A I<|Y I<|C 3 I<|U I (Aw k I KI Z3 I c.kp I I)<|U I (AO k 0 I G3 I I c.kp d I)<|U I (Qe I)<|G<|CB 16 I (λa=>?_)<|λa=>?_
  .exact Am I<|Y I<|r I<|A I<|s<|AA<|Ag<|Ag<|AA<|Ag<|Av I I<|λ_ h=>⟨(k:Int),rfl,.inr ⟨k,rfl,by rw[d,a]⟩,h⟩
  refine Tm ?_;exact AJ (k+1) J ⟨J,lH b d a⟩ (Si I) Jx
 exact Ab I<|AP<|Aa<|Aa<|Ar<|Kt<|Y I<|A I<|s<|Av I I<|λ_ h=>⟨-1,rfl,.inl ⟨rfl,by rw[pZ J] at b;exact b⟩,h⟩