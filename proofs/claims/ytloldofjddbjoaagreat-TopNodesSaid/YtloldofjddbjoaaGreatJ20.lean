/- Part 20. -/
import Derived.Test.YtloldofjddbjoaaGreatJ19
set_option linter.all false
set_option maxHeartbeats 8000000
set_option maxRecDepth 100000
namespace Go.Proofs.YtloldofjddbjoaaGreat
open Go.Sep Go.RowKit Tryz
variable {B i j:Nat} {x:HQ} {z:HC} {m:HM} {N:Nat->Nd} {G:Gh} {r:XV}
def g9 (h:x.Ok B) {U:Nat->Prop} {N:Nat->Nd} {G:Gh} (O:Xc U N x.hm) (m:TI U N G) (k:c3) {w0:d7} {D:bm} {l f g b bk:Nat} {rec:Loop} (F:rec.params.size=2)
 (d:∀(j:Nat) (nv:NV) (lv:d0) (E:ci) (w:d7),j<=G.ht 0->St w0 D (El l (.loop rec)::El f (.deferred<|some [])::Ac g 22 [lv]::AG lv 3 ds (nI<|Qm N k j)::E) w->RoundIn FW 0 prog l rec.fn ((rec.params.zip #[aa (Om N k j:Int),.agg nv.c.toArray]).foldl (λtmps (t,a)=>tmps.setIfInBounds t a) rec.tmps) rec.assign rec.body w (λe w'=>e=.returned (.bool true)/\∃y,St w0 D (El l (.loop rec)::El f (.deferred<|some [])::Ac g 22 [y]::AG y 3 ds (nI<|Qm N k<|j+1)::E) w'))
 {W:d7} {lv:d0} (hX:St w0 D (El l (.loop rec)::El f (.deferred<|some [])::Ac g 22 [lv]::AG lv 3 ds (nI<|Qm N k 0)::Ac b 47 [BM x.bh]::Ac bk 77 k.c::x.H) W):Calls prog 240 #[.func (.yield l) #[] #[],BM b,BM bk] W (λe V=>∃v y,e=.returned v/\St w0 D (El l (.loop rec)::El f (.deferred<|some [])::Ac g 22 [y]::AG y 3 ds (nI<|Qm N k<|G.ht 0+1)::Ac b 47 [BM x.bh]::Ac bk 77 k.c::x.H) V):=by
 have hh:=Wg m;refine enter (n:=41) (vs:=[.func (.yield l) #[] #[],pV b,pV bk]) (St w0 D<|El l (.loop rec)::El f (.deferred<|some [])::Ac g 22 [lv]::AG lv 3 ds (nI<|Qm N k 0)::Ac b 47 [BM x.bh]::Ac bk 77 k.c::x.H) func240 I I I hX ?_;refine Cs I<|Ak I<|Cs I<|Ak I<|YA ?_;refine Fm (λ(j:Nat) (i:d0) (lv:d0)=>[(0,.func (.yield l) #[] #[]),(1,BM b),(2,BM bk),(4,i),(5,aa (Om N k j:Int))]) (λ(j:Nat) (i:d0) (lv:d0)=>St w0 D<|AG i 3 ds (nI<|Qm N k j)::El l (.loop rec)::El f (.deferred<|some [])::Ac g 22 [lv]::AG lv 3 ds (nI<|Qm N k j)::Ac b 47 [BM x.bh]::Ac bk 77 k.c::x.H) (λ(j:Nat) (i:d0) (lv:d0)=>j<=G.ht 0) (λ(j:Nat) (i:d0) (lv:d0)=>G.ht 0-j) (0) (.slice none 0 0) lv (qc _) (Si I) Ih<|λj i lv hj=>Af<|Ad ?_
 have P:(nI<|Qm N k j).length=j:=by rw[ID,Mp]
 obtain⟨o,Q⟩:=KA m k j hj;have q:=lR m k hj;have J:=m.fit _ o;have K:=CF J<|show 255<=60000 by decide
 obtain⟨T,R,S,X⟩:=K;refine Cr I<|Lo Vs 5 I<|Mv 2 I<|Pm [1,1,1,1,1,1] I<|LW I<|Ee [_,_,_,_,_,_] (Xlq h O o A1 q) I call56 Tt<|λs _=>Pre.world (St _ _<|_::_::_::_::_::_::_::_::_::_::_::HQ.H x) Ih ?_
 refine LW I<|Ax I I I zeroValue135<|λM=>Ce NZ.c I<|LW I<|SW AK I Nc<|Nk<|Cs I<|EJ Bj I Eo I<|Lo H6 0 I<|Lq I (Cq k.c OO MW 6 I (Bq _) Nw)<|LW I<|E1 (KV (N<|Om N k j).piv k A1) I call178 (SN 9 I)<|λ_ _=>Ak I<|Ad<|Ad<|Xhk 3 I I<|Mv 2 I<|Lq I (Cq ((⟨s,N<|Om N k j⟩:NV).c) AV AK 0 I (I)<|I)<|VG 18 [2,3,4,0,5,6,7,8,9,10,11,12,13,14,15,16,17,1] I<|Xj6<|AE<|Mu<|Xlp I ?_
 refine Xji (l:=l) (rec:=rec) (vs:=[aa (Om N k j:Int),.agg (⟨s,N<|Om N k j⟩:NV).c.toArray]) (X':=λu=>∃y,St w0 D (El l (.loop rec)::El f (.deferred<|some [])::Ac g 22 [y]::AG y 3 ds (nI<|Qm N k<|j+1)::Ac M 135 (⟨s,N<|Om N k j⟩:NV).c::Ac b 47 [BM x.bh]::Ac bk 77 k.c::(Bo (⟨s,N<|Om N k j⟩:NV)++(AG i 3 ds (nI<|Qm N k j)::x.H))) u) rfl rfl rfl rfl rfl (by rw[F];rfl) (λu h=>h.at 0 rfl) (λu h=>d j (⟨s,N<|Om N k j⟩:NV) lv _ u hj h) (Pre.Xja (p:=λ_=>True) (X':=λy=>St w0 D<|El l (.loop rec)::El f (.deferred<|some [])::Ac g 22 [y]::AG y 3 ds (nI<|Qm N k<|j+1)::Ac M 135 (⟨s,N<|Om N k j⟩:NV).c::Ac b 47 [BM x.bh]::Ac bk 77 k.c::(Bo (⟨s,N<|Om N k j⟩:NV)++(AG i 3 ds (nI<|Qm N k j)::x.H))) (λu h=>by obtain⟨y,h⟩:=h;exact⟨y,T0,h⟩)<|λC _=>Lq I (Qt I)<|Lm I<|EJ Bj I Z4 I<|Lo G4 4 I<|Mv 2 I ?_);rcases pG j (G.ht 0) with r|r
 .obtain⟨z,Z,L⟩:=Xjl m k r;refine Sb 25 false I zr<|Lm I<|EJ Bj I OQ I<|Lo Pq 4 I<|Lq I (AM I KI I<|SN 8 I)<|Mv 2 I<|Nk<|Sb 31 false I zr<|Ab I<|Ah<|Kt<|Cs I<|Mv 2 I<|LW I<|As (sz:=1) [.tmp 33] I I I I I KI Z3 I zeroValue3 I<|λb1=>PW<|LW I<|Ap KI KI CD I (λ_ h=>AR kj ds [(Om N k j:Int)] I I) A8<|λY=>Ba ((Tp N k j).symm)<|AD<|Ae<|Ak I<|Cr I<|EJ Bj I OQ I<|Lo Pq 5 I<|Lm I<|Lq I (Aw (EL (N<|Om N k j).piv k) I KI Z3 I (SN 9 I) I I)<|Lq I (AO (EL (N<|Om N k j).piv k) 0 I G3 I I (SN 9 I) L I)<|Nh I<|AE<|Au<|B7<|Ae<|FL<|Ae<|FL<|Ae<|FL<|Ae<|FL<|Ae<|PW ?_
  refine VG 13 [1,2,3,4,5,6,7,8,9,10,11,12,0] I ?_;exact AJ ((j+1,Y,C)) A4 A4 (Si I) Jx
 have A:j=G.ht 0:=by omega
 have z:(N<|Om N k j).leaf=true:=by rw[A];exact Xjm m k
 refine Sb 25 true I zr<|Mv 6 I<|Nk<|Am I<|Al<|Ag<|AA<|Ag<|AA<|Cd<|Ae<|DF<|Ae<|C3<|Ae<|C3<|Ae<|C3<|Ae ?_;exact C3<|Ae<|Bl I<|λ_ h=>⟨_,C,rfl,by rw[A] at h;exact h⟩
def Xhn {n:Nat} {L:Env} {a:Act} (k:Know n L a):Know n L {tmps:=a.tmps,defers:=[]}:=⟨k.size,rfl,k.get⟩
def UP (y:Nat) (k:c3):Df prog 172 [BM y,.agg k.c.toArray] Tr [] (λb:Nat×Nat=>.func (.func 240) #[] #[BM b.1,BM b.2]) Tr (λb=>[Ac b.1 47 [BM y],Ac b.2 77 k.c]):=by
 intro w e d;refine E0 func172 I d ?_;exact Y I<|Z I<|AT I I I I<|λz=>M [BM y] I<|Z I<|AT I I I I<|λbk=>M k.c I<|A I<|Y I<|Lq I (BU (fn:=.func 0) (us:=#[BM z,BM bk]) 240 I (vs:=#[]) Vu<|λa k=>by simp[k.eval (x:=.tmp 3) rfl,k.eval (x:=.tmp 2) rfl])<|A I<|s<|AD<|Av I I<|λ_ h=>⟨(z,bk),rfl,T0,h⟩
def Xlc (h:x.Ok B) {U:Nat->Prop} {N:Nat->Nd} (s:Xc U N x.hm) {G:Gh} (g:TI U N G) (k:c3):Df prog 120 [BM x.bh,.agg k.c.toArray] Tr (x.H) (λv:d0=>v) Tr (λv=>AG v 3 ds (nI<|Qm N k<|G.ht 0+1)::x.H):=by
 intro w J t;refine lP (n:=17) (vs:=[BM x.bh,.agg k.c.toArray]) (St w (dom<|x.H)<|x.H) func120 I I I (St.init t) ?_;refine Y I<|Z I<|AT I I I I<|λq=>M k.c I<|Ak I<|Y I<|Z I<|Ax I I I zeroValue22<|λp=>M [.slice none 0 0] I<|Ns<|Y I<|Lm I<|Lq I yo<|Z I<|DD (UP x.bh k) I I I call172 I Tt ?_
 intro ⟨C,bk⟩ _;refine Nk<|BP<|Ae<|row0 3 ds none<|Pm [3] I<|Af<|Xjh (β:=d0) (HB:=λlv=>Ac p 22 [lv]::AG lv 3 ds (nI<|Qm N k<|G.ht 0+1)::Ac C 47 [BM x.bh]::Ac bk 77 k.c::x.H) Tr I (λ_ _=>I) ?_ ?_
 .intro a fn l i W b z;refine (g9 h s g k rfl (λj nv lv E K hj A=>?_) z).mono (λe F h=>by obtain⟨v,y,rfl,h⟩:=h;exact⟨v,y,rfl,T0,h⟩);refine cX (m:=17) (HB:=λy=>El i (.deferred<|some [])::Ac p 22 [y]::AG y 3 ds (nI<|Qm N k<|j+1)::E) I I (by have r:=((Xhn b).put (d:=10) (aa (Om N k j:Int)) I).put (d:=11) (.agg nv.c.toArray) rfl;simpa [Tn,Act.put] using r) A<|To _ I I<|Ak I<|lO ?_;have u:(nI<|Qm N k j).length=j:=by rw[ID,Mp]
  have L:=Wg g;refine gT<|To _ I I<|Lo Pq 2 I<|Lm I<|Z I<|As (sz:=1) [.tmp 13] I I I I I KI Z3 I zeroValue3 I<|λD=>Cd<|Z I<|Ap KI KI CD I (λ_ h=>AR kj ds [(Om N k j:Int)] I I) A8<|λM=>Ba ((Tp N k j).symm)<|AD<|Ae<|WA ?_
  rintro⟨f,o,rfl⟩;exact BP<|Z I<|AB I I OQ I I I (rO I)<|M [(.slice f (nI<|Qm N k<|j+1).length o)] I<|AE<|Au<|Pm [2,2] I<|λ_ _ _ h=>⟨rfl,(.slice f (nI<|Qm N k<|j+1).length o),h⟩
 intro lv _ a i W b z;exact Xjj (n:=17) I I I I I I I (Aj I Pq I uq I) uW b z (z.at 0 I)<|ZBG
abbrev HC.top (h:HC) (m:HM):ci:=OZ h.bH (BM h.x.bh) h.bt h.vT h.vO h.vE m.sq m.pk::AG h.vE 71 O1.enc m.ev::AG h.vT 102 Tk.enc h.tks::Ac h.bt 171 (Sc.o4 m.T)::(RD 0 h.cc++Qa h.cc.length h.fl)
def HC.split (h:HC) (m:HM):h.H m=h.top m++h.x.H:=by
 show _::_::_::_::(RD 0 h.cc++(Qa h.cc.length h.fl++h.x.H))=_::_::_::_::((RD 0 h.cc++Qa h.cc.length h.fl)++h.x.H)
 rw[qQ]
def HC.kU {P:d8} {f:FuncId} {vs:bi} {E E':aU} {β:Type} {v:β->d0} {p:β->Prop} {A:β->ci} (s:Df P f vs E z.x.H v p<|λb=>A b++z.x.H) (h:∀w,E' w->HP (z.H m) w->E w):Df P f vs E' (z.H m) v p (λb=>A b++z.H m) :=
 Df.pack (z.top m) s (by rw[z.split m];exact sV) h id<|λb y=>⟨rfl,y,[],by
  rw[sG,z.split m,qQ]
  exact sV.append_left<|A b⟩
def XkJ (h:x.Ok B):Df prog 34 [BM x.bs] Tr x.H (λv:d0=>v) Tr (λv=>AG v 3 ds (nI x.s.used)::x.H) :=
 HQ.fC (E':=λ_=>True) (A:=[]) (A':=λv:d0=>[AG v 3 ds<|nI x.s.used]) (sn:=λ_=>x.s) (Xaj h.s x.bs x.vB x.vU) oY
section
variable {z:HC} {m:HM} {B:Nat} {N:Nat->Nd} {G:Gh}
def O9.zH (k:O9 z m B) (hj:HJ N G m):Xc m.L.U N z.x.hm:=by rw[k.lh.hm];exact hj.lk
def Xld (k:O9 z m B) (hj:HJ N G m) {b:Nat} (h:m.L.U b):Df prog 71 [BM z.x.bh,aa (b:Int)] Tr (z.H m) (λs:N4=>.tuple #[.agg (⟨s,N b⟩:NV).c.toArray,.bool true]) Tr (λs=>Bo (⟨s,N b⟩:NV)++z.H m) :=
 HC.kU (A:=λs:N4=>Bo (⟨s,N b⟩:NV)) (UO k.lh.ok (k.zH hj) h) oY
def Xle (k:O9 z m B) (hj:HJ N G m) (key:c3):Df prog 120 [BM z.x.bh,.agg key.c.toArray] Tr (z.H m) (λv:d0=>v) Tr (λv=>AG v 3 ds (nI<|Qm N key<|G.ht 0+1)::z.H m) :=
 HC.kU (A:=λv:d0=>[AG v 3 ds<|nI<|Qm N key<|G.ht 0+1]) (Xlc k.lh.ok (k.zH hj) hj.t key) oY
end
def Xho {l:ct} {x:En} (h:l[i]?=some x):(l.take i).map En.key++[x.key]=(l.take<|i+1).map En.key:=by rw[sH,h,qR];rfl
def Xhp {l:cp} {x:Ms} {a:List<|c3} (h:l[i]?=some x):(a++(l.take i).map Ms.key)++[x.key]=a++(l.take<|i+1).map Ms.key:=by rw[sH,h,qR,qQ];rfl
def hZ (k:O9 z m B) {N:Nat->Nd} {G:Gh} (hj:HJ N G m) {b:Nat} (r:m.L.U b) {nv:NV} (j:nv.d=N b):Df prog 74 [BM z.bH,aa (b:Int),.agg nv.c.toArray] Tr (Bo nv++z.H m) (λ_:Unit=>.bool true) Tr (λ_=>Bo nv++z.H m):=by
 intro w V u;have n:BJ nv.d=true:=by rw[j];exact hj.t.fit b r
 have g:Ye (G.lo b) (G.hi b) nv.d:=by rw[j];exact hj.t.key b r
 obtain⟨P,W,S,Q⟩:=CF n<|show 255<=255 by decide
 refine Ey func74 I u<|Cs I<|LW I<|AT I I I I<|λe=>Ce nv.c I<|Ak I<|Cs I<|Ak I<|Ad<|Cs I<|Ak I<|Af<|row0 77 (Kv.enc 8) none ?_
 refine B6 (λ(i:Nat) (v:d0)=>[(0,BM z.bH),(1,aa (b:Int)),(5,BM e),(7,v),(8,aa (i:Int))]) (λ(i:Nat) (v:d0)=>St w (dom<|Bo nv++z.H m)<|AG v 77 (Kv.enc 8) ((nv.d.es.take i).map En.key)::Ac e 135 nv.c::(Bo nv++z.H m)) (λ(i:Nat) (v:d0)=>i<=nv.d.es.length) (λ(i:Nat) (v:d0)=>nv.d.es.length-i) (0) (.slice none 0 0) (qc _) (Si I) Ih<|λi v hi=>Ad<|Ad ?_
 have q:((nv.d.es.take i).map En.key).length=i:=jI;refine Cr I<|Lm I<|EJ Bj I RQ I<|Lo UN 1 I<|Lq I (AM I O8 I ue)<|Lq I (Ql I)<|Nk<|CB 15 I (λF=>?_)<|λF=>?_
 .obtain⟨x,y⟩:=gE nv.d.es i;refine Am I<|Ah<|Ks<|Af<|Cr I<|Lm I<|EJ Bj I RQ I<|Lo UN 1 I<|Lm I<|Lq I (Aw i I O8 Qc I ue I I)<|EJ Rj I MW I<|Lq I (BK x.key.c i 0 I OO MW I I ue y A2 aP)<|LW I<|As (sz:=9) [.tmp 24] I I I I I CZ MW I zeroValue77 xP<|λR=>AD<|LW I<|Ap CZ CZ KL I (λ_ h=>AR kj (Kv.enc 8) [x.key] I I) A8<|λp=>Ba (Xho y)<|AD<|Ae<|Nh I<|AE<|Po ?_
  exact oD
 have a:i=nv.d.es.length:=by omega
 subst a;rw[pZ<|qb _] at q ⊢;refine Ab I<|AP<|Aa<|Aa<|Ar<|Ks<|zF ?_;refine B6 (λ(i:Nat) (v:d0)=>[(0,BM z.bH),(1,aa (b:Int)),(5,BM e),(7,v),(9,aa (i:Int))]) (λ(i:Nat) (v:d0)=>St w (dom<|Bo nv++z.H m)<|AG v 77 (Kv.enc 8) (nv.d.es.map En.key++(nv.d.msgs.take i).map Ms.key)::Ac e 135 nv.c::(Bo nv++z.H m)) (λ(i:Nat) (v:d0)=>i<=nv.d.msgs.length) (λ(i:Nat) (v:d0)=>nv.d.msgs.length-i) (0) v (qc _) (Si I) (λ_ h=>by rw[List.take_zero,qH,sG];exact h)<|λi v O=>Ad<|Ad ?_
 have f:(nv.d.es.map En.key++(nv.d.msgs.take i).map Ms.key).length=nv.d.es.length+i:=by rw[pK,qY,qY,pI];omega
 have E:(nv.d.es.map En.key).length=nv.d.es.length:=qY ..;have J:((nv.d.msgs.take i).map Ms.key).length=i:=jI;refine Cr I<|Lm I<|EJ Bj I DS I<|Lo Fy 1 I<|Lq I (AM I BH I Yp)<|Lq I (Ql I)<|Nk<|CB 31 I (λC=>?_)<|λC=>?_
 .obtain⟨x,y⟩:=gE nv.d.msgs i;refine Am I<|Ah<|Ks<|Af<|Cr I<|Lm I<|EJ Bj I DS I<|Lo Fy 1 I<|Lm I<|Lq I (Aw i I BH Bi I Yp I I)<|EJ BR I MW I<|Lq I (BK x.key.c i 2 I OO MW I I Yp y A2 Wq)<|LW I<|As (sz:=9) [.tmp 40] I I I I I CZ MW I zeroValue77 xP<|λX=>AD<|LW I<|Ap CZ CZ KL I (λ_ h=>AR kj (Kv.enc 8) [x.key] I I) A8<|λp=>Ba (Xhp y)<|AD<|Ae<|Nh I<|AE<|Po ?_
  exact oD
 have a:i=nv.d.msgs.length:=by omega
 subst a;rw[pZ<|qb _] at f ⊢;refine Ab I<|AP<|Aa<|Aa<|Ar<|Kt<|Cs I<|Lm I<|EJ Bj I Eo I<|Lo H6 1 I<|LW I<|B0 I I I CZ CZ KL I I I I I aF (by simp only[iu];omega) A1<|λl=>Ak I<|Ad<|zF ?_
 have s:(KB nv.d).length=nv.d.es.length+nv.d.msgs.length+nv.d.piv.length:=by unfold KB;simp only[pK,qY]
 refine Pw (St w (dom<|Bo nv++z.H m)<|AG l 77 (Kv.enc 8) (KB nv.d)::Ac e 135 nv.c::(Bo nv++z.H m)) ?_;refine Jp<|Jp<|Jp<|Jp<|Jp<|Jp<|Jp<|Jp<|Jp<|Jp ?_;refine Bm (λ(i:Nat)=>[(0,BM z.bH),(1,aa (b:Int)),(7,l),(10,aa (i:Int))]) (λ(i:Nat)=>St w (dom<|Bo nv++z.H m)<|AG l 77 (Kv.enc 8) (KB nv.d)::Ac e 135 nv.c::(Bo nv++z.H m)) (λ(i:Nat)=>i<=(KB nv.d).length) (λ(i:Nat)=>(KB nv.d).length-i) (0) (qc _) (Si I) Ih<|λi A=>Ad<|Cs I<|Mv 2 I<|Lq I (AM I CZ I ur)<|YD ?_
 refine CB 50 I (λM=>?_)<|λM=>?_
 .obtain⟨x,y⟩:∃x,(KB nv.d)[i]?=some x:=⟨_,pE A1⟩
  obtain⟨Y,o⟩:=XkI hj.t r<|c5 g x<|ry y;refine Am I<|Ah<|Ks<|Af<|Ad<|LZ [0,2,3,4,5,7,1,6,8,9] 55404 (λK=>Ec K l (Kv.enc 8)<|KB nv.d) I St.drawn ur<|Md 3 I<|Dq I (Aw i I CZ MW I Ih I I)<|Dq I (Bc i I OO MW I I Ih y)<|Dm I<|MX I<|Ee [_,_,_,_,_,_] (Pr k) I call19 Tt<|λ_ _=>Pre.world (St _ _<|_::_::_::_::_::_::HC.H z m) Ih<|Ai ur<|MX I<|Ee [_,_,_,_,_,_] (Xle k hj x) I call120 Tt<|λT _=>Pre.world (St _ _<|_::_::_::_::_::_::_::HC.H z m) Ih<|Ai ur ?_
  have D:(nI<|Qm N x<|G.ht 0+1).length<=256:=by rw[ID,Mp];exact Wg hj.t
  refine KC I<|E1 (IP (nI<|Qm N x<|G.ht 0+1) (b:Int) A1) I call73 (SN 6 I)<|λ_ _=>KC I<|OC I I (Ql I)<|AN<|Kt<|Sf 62 I (by rw[o];simp[io];try omega)<|Ab I<|Ah<|Au<|Kt<|Cr I<|Lm I<|Lq I (Qi I)<|Nh I<|AE<|C3<|Ae<|Pm [2,2,2,2,2,2,2,2] I<|Pm [8,8] I ?_
  exact vV
 exact Ab I<|AP<|Aa<|Aa<|Ar<|Kt<|Cs I<|Ak I<|Al<|Ae<|Ae LF
def c9 (G:Gh):lvl G [0]=[1]:=by unfold lvl;rw[qG,qH];congr 1;omega
section
variable {U:Nat->Prop} {N:Nat->Nd} {G:Gh}
def ia (h:TI U N G) {b:Nat} (x:U b) {R:bm}:nI R++(N b).kids=nI (R++E6 (N b)):=by
 rw[<-Xin h x];unfold nI;rw[qR]
def da (h:TI U N G) {b:Nat} (x:U b) {R:bm}:lvl G R++List.replicate (N b).kids.length ((G.ht 0:Int)+1-(G.ht b:Int)+1)=lvl G (R++E6 (N b)):=by
 rw[<-Xhl h x];unfold lvl;rw[qR]
end
def Ev {α:Type} {a l:List α} {x:α} (h:l[j]?=some x):(a++l.take j)++[x]=a++l.take (j+1):=by rw[sH,h,qQ];rfl
def DV {a:bf} {x:Int}:(a++List.replicate j x)++[x]=a++List.replicate (j+1) x:=by rw[List.replicate_succ',qQ]
def O9.xs (k:O9 z m B):m.L.s=z.x.s:=(congrArg Hm.s k.lh.hm).symm
def db (k:O9 z m B) (hj:HJ N G m) {n:Nat} {R:bm} (w:BW m.L.U N G n R) (h:R.length<=n):z.x.s.used.length=R.length:=by
 rw[<-k.xs];exact BW.used hj.t w h
def HC.Xdh (z:HC) (m:HM):(z.H m).Perm (z.x.H++z.top m):=by rw[z.split m];exact sV
def UQ (k:O9 z m B) {N:Nat->Nd} {G:Gh} (hj:HJ N G m) (C:Bool):Df prog 36 [BM z.bH,.bool C] Tr (z.H m) (λ_:Unit=>.bool true) Tr (λ_=>z.H m):=by
 intro w hE hH;refine Ey func36 I hH<|Cs I<|Ak I<|Cs I<|Lm I<|LW I<|Ee [] (Pr k) I call19 Tt<|λ_ _=>Pw (St _ _<|HC.H z m)<|Ak I<|Cs I<|LW I<|As (sz:=1) [.const<|aa 0] I I I I I KI Z3 I zeroValue3 I<|λb1=>Sj ds [0] I I<|LW I<|As (sz:=1) [.const<|aa 1] I I I I I KI Z3 I zeroValue3 I<|λb2=>Nh I<|Nh I<|Ak I<|Ad<|Cs I<|Ak I<|Af<|Sj ds [1] I I<|Pm [1] I ?_
 refine Pre.world (St w (dom<|z.H m)<|AG (.slice (some ⟨b1,0,none⟩) 1 1) 3 ds (nI [0])::AG (.slice (some ⟨b2,0,none⟩) 1 1) 3 ds (lvl G [0])::z.H m) (λ_ h=>by rw[c9];exact h) ?_;refine PE (λ(i:Nat) (n:d0) (q:d0) (lf:Int) (R:bm)=>[(0,BM z.bH),(1,.bool C),(5,BM z.x.bh),(6,n),(7,q),(8,aa lf),(9,aa (i:Int))]) (λ(i:Nat) (n:d0) (q:d0) (lf:Int) (R:bm)=>St w (dom<|z.H m)<|AG n 3 ds (nI R)::AG q 3 ds (lvl G R)::z.H m) (λ(i:Nat) (n:d0) (q:d0) (lf:Int) (R:bm)=>i<=R.length/\BW m.L.U N G i R/\(lf=0\/lf=(G.ht 0:Int)+1)) (λ(i:Nat) (n:d0) (q:d0) (lf:Int) (R:bm)=>256-i) (0) (.slice (some ⟨b1,0,none⟩) 1 1) (.slice (some ⟨b2,0,none⟩) 1 1) (0) ([0]) ⟨qc _,BW.zero hj.t,.inl rfl⟩ (Si I) Ih<|λi n q lf R hp=>Ad<|Ad ?_
 obtain⟨hi,W,h6⟩:=hp;have h9:(nI R).length=R.length:=ID _;have x4:(lvl G R).length=R.length:=Xjk;have hR:=W.len hj.t;refine Cr I<|Mv 2 I<|Lq I Xg<|Lq I (Ql I)<|Nk<|CB 20 I (λh1=>?_)<|λh1=>?_
 .obtain⟨b,A⟩:=gE R i;have V:=cY A;have F:=XkH (G:=G) A;have r:=W.u b<|ry A;have IM:=W.step hj.t A;have E:=IM.len hj.t;have Y:=hj.t.fit b r;have x2:=W.place hj.t A;have h2:=(qp.1 A).1;have x3:(E6<|N b).length=(N b).kids.length:=qY ..;rw[pK,x3] at E;refine Am I<|Ah<|Ks<|Af<|Cs I<|Mv 3 I<|Lq I xO<|Lq I (AO i 0 I G3 I I ur V I)<|LW I<|Ee [_,_] (Xld k hj r) I call71 Tt<|λs _=>Pre.world (St _ _<|_::_::_::_::_::_::HC.H z m) Ih ?_
  obtain⟨nv,M⟩:∃nv:NV,nv=⟨s,N b⟩:=⟨_,rfl⟩
  have f:nv.d=N b:=by rw[M]
  rw[<-M];refine Mv 3 I<|LW I<|Ax I I I zeroValue135<|λO=>Ce NZ.c I<|LW I<|SW AK I Nc<|Ak I<|Ad<|Cs I<|Mv 3 I<|Lq I hG ?_
  have K:BJ nv.d=true:=by rw[f];exact Y
  have h8:=CF K<|show 255<=50000 by decide
  rw[<-f] at E IM;refine LW I<|E1 (Xfv nv K h8) I call72 aI<|λ_ _=>Lq I (Qt I)<|Mv 5 I<|Lq I (Aw i I KI Z3 I RF I I)<|Lq I (AO i 0 I G3 I I RF V I)<|LW I<|E1 (IP (nI R) (b:Int) A1) I call73 RF<|λ_ _=>Lm I<|Mv 2 I<|Nk<|Sb 48 false I (by first|rfl|(rw[x2];simp[io]))<|Ab I<|Ah<|Ks<|Cs I<|EJ Bj I Z4 I<|Lo G4 0 I<|Nk ?_
  refine ES (λ(o:Int)=>[(0,BM z.bH),(1,.bool C),(5,BM z.x.bh),(6,n),(7,q),(8,aa o),(9,aa (i:Int)),(10,BM O)]) (λ(o:Int)=>St w (dom<|z.H m)<|Ac O 135 nv.c::AG n 3 ds (nI R)::AG q 3 ds (lvl G R)::(Bo nv++z.H m)) (λ(o:Int)=>o=0\/o=(G.ht 0:Int)+1) ?_ ?_
  .refine Pre.PY 50 I (λJ=>?_) (λJ=>?_)
   .have y3:G.ht b=0:=(hj.t.lf b r).1 (by rw[<-f];exact J);refine Am I<|Ad<|Cs I<|Lm I<|Lq I vd<|Lm I<|CB 53 I (λh4=>?_)<|λh4=>?_
    .have Q:lf=(G.ht 0:Int)+1:=by omega
     refine Mv 3 I<|Lq I iE<|Lq I (AO i 0 I G3 I I ue F I)<|Mv 2 I<|Nk<|Sb 60 false I (by first|rfl|exact sS A1|(simp;omega))<|ZEO ?_;exact ZFq
    have Q:lf=0:=by omega
    refine Mv 7 I<|Nk<|ZEO ?_;exact ZFq
   refine Ab I (Ah ?_);exact Bf lf h6 (Si I) Jx
  intro o D;refine Ad<|zF ?_;refine Fm (λ(j:Nat) (n:d0) (q:d0)=>[(0,BM z.bH),(1,.bool C),(5,BM z.x.bh),(6,n),(7,q),(8,aa o),(9,aa (i:Int)),(10,BM O),(12,aa (j:Int))]) (λ(j:Nat) (n:d0) (q:d0)=>St w (dom<|z.H m)<|Ac O 135 nv.c::AG n 3 ds (nI R++nv.d.kids.take j)::AG q 3 ds (lvl G R++List.replicate j (((G.ht 0:Int)+1-(G.ht b:Int))+1))::(Bo nv++z.H m)) (λ(j:Nat) (n:d0) (q:d0)=>j<=nv.d.kids.length) (λ(j:Nat) (n:d0) (q:d0)=>nv.d.kids.length-j) (0) n q (qc _) (Si I) (λ_ h=>by rw[List.take_zero,sG,List.replicate_zero,sG];exact h)<|λj n q x7=>Ad<|Ad ?_
  have x5:nv.d.kids.length=(N b).kids.length:=by rw[f]
  have h5:(nv.d.kids.take j).length=j:=xN;have y2:(nI R++nv.d.kids.take j).length=R.length+j:=by rw[pK,h5,h9]
  have h3:(List.replicate j<|((G.ht 0:Int)+1-(G.ht b:Int))+1).length=j:=s9 ..;have y1:(lvl G R++List.replicate j (((G.ht 0:Int)+1-(G.ht b:Int))+1)).length=R.length+j:=by rw[pK,h3,x4]
  have p:(lvl G R++List.replicate j (((G.ht 0:Int)+1-(G.ht b:Int))+1))[i]?=some ((G.ht 0:Int)+1-(G.ht b:Int)):=by rw[pL A1];exact F
  have y8:G.ht 0<256:=Wg hj.t
  have y4:(G.ht b:Int)<=G.ht 0:=by
   rcases qg b with e|e
   .rw[e];exact Int.le_refl _
   have:=(hj.t.up b r A1).1;omega
  refine Cr I<|Lm I<|EJ Bj I OQ I<|Lo Pq 0 I<|Lq I (AM I KI I aF)<|Lq I (Ql I)<|Nk<|CB 69 I (λX=>?_)<|λX=>?_
  .obtain⟨x,g⟩:=gE nv.d.kids j;refine Am I<|Ah<|Ks<|Af<|DP (λS=>(Ac O 135 nv.c).at S/\Ec S nv.s.k.v ds nv.d.kids) I St.drawn<|Aq 0 I Vz uf<|Aq 1 I Vz Zd<|Aq 2 I Vz mF<|Aq 3 I Vz uf<|Aq 4 I Vz (Aw j I KI Z3 I uS I I)<|Aq 5 I Vz (AO j 0 I G3 I I uS g I)<|Aq 8 I Vz uf<|Aq 9 I Vz uf<|Aq 10 I Vz uf<|QZ 6 11 I ?_ ?_
   .refine As (sz:=1) [.tmp 77] I I I I I KI Z3 I zeroValue3 I (λb1=>Ai Wp<|QZ 7 11 I ?_ ?_)
    .refine AQ (Ap KI KI CD I yX A8<|λy=>Ba (Ev g)<|AD<|Ae<|Ai W9<|Ay 11 I<|OC I I ZBh<|Ai W9<|Ay 12 I<|OC I I iq<|Ai W9<|Aq 13 I W9 py<|Ay 14 I<|As (sz:=1) [.tmp 85] I I I I I KI Z3 I zeroValue3 I<|λb2=>Ai XC<|BP<|Ay 15 I<|Ap KI KI CD I vt A8<|λa=>Ba (DV)<|AD<|E2 ?_);exact ub
    refine OC I I (Aw (l:=lvl G R++List.replicate j (((G.ht 0:Int)+1-(G.ht b:Int))+1)) i I KI Z3 I yp I I) (Ai Wp<|QZ 7 12 I ?_ ?_)
    .refine AQ (Ap KI KI CD I yX A8<|λy=>Ba (Ev g)<|AD<|Ae<|Ai W9<|Ay 12 I<|OC I I iq<|Ai W9<|Aq 13 I W9 py<|Ay 14 I<|As (sz:=1) [.tmp 85] I I I I I KI Z3 I zeroValue3 I<|λb3=>Ai XC<|BP<|Ay 15 I<|Ap KI KI CD I vt A8<|λa=>Ba (DV)<|AD<|E2 ?_);exact ub
    refine OC I I (AO i 0 I G3 I I yp p I) (Ai Wp<|Aq 13 I Wp py<|QZ 7 14 I ?_ ?_)
    .refine AQ (Ap KI KI CD I yX A8<|λy=>Ba (Ev g)<|AD<|Ae<|Ai W9<|Ay 14 I<|As (sz:=1) [.tmp 85] I I I I I KI Z3 I zeroValue3 I<|λb4=>Ai XC<|BP<|Ay 15 I<|Ap KI KI CD I vt A8<|λa=>Ba (DV)<|AD<|E2 ?_);exact ub
    refine As (sz:=1) [.tmp 85] I I I I I KI Z3 I zeroValue3 I (λb5=>Ai (Hb 2 6 I)<|BP<|Ay 7 I<|Ap KI KI CD I wP A8<|λy=>Ba (Ev g)<|AQ<|Ae<|Ai XC<|BP<|Ay 15 I<|Ap KI KI CD I xi A8<|λa=>Ba (DV)<|AQ<|E2 ?_);exact ub
   refine OC I I ZBh (Ai Vz<|QZ 6 12 I ?_ ?_)
   .refine As (sz:=1) [.tmp 77] I I I I I KI Z3 I zeroValue3 I (λb6=>Ai Wp<|QZ 7 12 I ?_ ?_)
    .refine AQ (Ap KI KI CD I yX A8<|λy=>Ba (Ev g)<|AD<|Ae<|Ai W9<|Ay 12 I<|OC I I iq<|Ai W9<|Aq 13 I W9 py<|Ay 14 I<|As (sz:=1) [.tmp 85] I I I I I KI Z3 I zeroValue3 I<|λb7=>Ai XC<|BP<|Ay 15 I<|Ap KI KI CD I vt A8<|λa=>Ba (DV)<|AD<|E2 ?_);exact ub
    refine OC I I (AO i 0 I G3 I I yp p I) (Ai Wp<|Aq 13 I Wp py<|QZ 7 14 I ?_ ?_)
    .refine AQ (Ap KI KI CD I yX A8<|λy=>Ba (Ev g)<|AD<|Ae<|Ai W9<|Ay 14 I<|As (sz:=1) [.tmp 85] I I I I I KI Z3 I zeroValue3 I<|λb8=>Ai XC<|BP<|Ay 15 I<|Ap KI KI CD I vt A8<|λa=>Ba (DV)<|AD<|E2 ?_);exact ub
    refine As (sz:=1) [.tmp 85] I I I I I KI Z3 I zeroValue3 I (λb9=>Ai (Hb 2 6 I)<|BP<|Ay 7 I<|Ap KI KI CD I wP A8<|λy=>Ba (Ev g)<|AQ<|Ae<|Ai XC<|BP<|Ay 15 I<|Ap KI KI CD I xi A8<|λa=>Ba (DV)<|AQ<|E2 ?_);exact ub
   refine OC I I iq (Ai Vz<|Aq 13 I Vz py<|QZ 6 14 I ?_ ?_)
   .refine As (sz:=1) [.tmp 77] I I I I I KI Z3 I zeroValue3 I (λy6=>Ai Wp<|QZ 7 14 I ?_ ?_)
    .refine AQ (Ap KI KI CD I yX A8<|λy=>Ba (Ev g)<|AD<|Ae<|Ai W9<|Ay 14 I<|As (sz:=1) [.tmp 85] I I I I I KI Z3 I zeroValue3 I<|λz1=>Ai XC<|BP<|Ay 15 I<|Ap KI KI CD I vt A8<|λa=>Ba (DV)<|AD<|E2 ?_);exact ub
    refine As (sz:=1) [.tmp 85] I I I I I KI Z3 I zeroValue3 I (λx9=>Ai (Hb 2 6 I)<|BP<|Ay 7 I<|Ap KI KI CD I wP A8<|λy=>Ba (Ev g)<|AQ<|Ae<|Ai XC<|BP<|Ay 15 I<|Ap KI KI CD I xi A8<|λa=>Ba (DV)<|AQ<|E2 ?_);exact ub
   refine As (sz:=1) [.tmp 85] I I I I I KI Z3 I zeroValue3 I (λy9=>Ai Wp<|Ay 6 I<|As (sz:=1) [.tmp 77] I I I I I KI Z3 I zeroValue3 I<|λy7=>Ai (Hb 2 6 I)<|BP<|Ay 7 I<|Ap KI KI CD I yX A8<|λy=>Ba (Ev g)<|AD<|Ae<|Ai XC<|BP<|Ay 15 I<|Ap KI KI CD I xi A8<|λa=>Ba (DV)<|AQ<|E2 ?_);exact ub
  have P:j=nv.d.kids.length:=by omega
  have e1:nI R++nv.d.kids.take j=nI (R++E6 nv.d):=by rw[P,pZ<|qb _,f];exact ia hj.t r
  have e2:lvl G R++List.replicate j (((G.ht 0:Int)+1-(G.ht b:Int))+1)=lvl G (R++E6 nv.d):=by rw[P,f];exact da hj.t r
  rw[e1,e2];have T:=cY (R:=(R++E6 nv.d)) (i:=i) (b:=b)<|by rw[pL h2];exact A
  have x6:(nI<|R++E6 nv.d).length=R.length+nv.d.kids.length:=by rw[ID,pK];exact congrArg (R.length+·)<|qY ..
  refine Ab I<|AP<|Aa<|Aa<|Ar<|Ks<|LZ (rg 15) 13817466 (λS=>(Ac O 135 nv.c).at S/\Ec S n ds (nI<|R++E6 nv.d)) I St.drawn Xj<|Md 2 I<|Pre.PY 89 I (λx1=>?_)<|λx1=>?_
  .refine Dm I (Dq I vd<|Md 2 I<|CB 93 I (λh7=>?_)<|λh7=>?_)
   .refine Md 3 I (Dq I ZBr<|Dq I (AO i 0 I G3 I I uS T I)<|Dq I X8<|KC I<|J8 [_,_,_] (HA:=Bo nv++z.H m) (hZ k hj r f) I I I call74 I Tt<|λ_ _=>Pre.world (St _ _<|_::_::_::_::_::_::_::HC.H z m) Ih ?_);refine KC I<|OC I I (Qt I)<|KC I<|OC I I (Qy I)<|AN<|Kt<|Ab I<|Ah<|Au<|Kt<|Cr I<|Lm I<|Lq I (Qi I)<|Nh I<|AE<|Ae<|AQ<|Ae<|AQ<|Ae<|AQ<|Ae<|AQ<|Ae<|B7<|B7<|B7<|B7<|B7<|B7 ?_;exact wo
   refine Md 8 I (ze ?_);exact wo
  refine Md 12 I (ze ?_);exact wo
 have x8:i=R.length:=by omega
 have Z:=db k hj W A1;have y5:(nI z.x.s.used).length=R.length:=by rw[ID];exact Z
 refine AD<|Ae<|Pre.world (St w (dom<|z.H m)<|AG n 3 ds (nI R)::(z.x.H++z.top m)) (λ_ h=>h.perm<|(z.Xdh m).cons _) ?_;refine Ab I<|AP<|Aa<|Aa<|Ar<|Kt<|Cs I<|Mv 2 I<|EJ Pz I Xe I<|Lo Xb 1 I<|LW I<|RT [_] (z.top m) (HA:=z.x.H) (XkJ k.lh.ok) I I I call34 I Tt<|λvu _=>Pre.world (St _ _<|_::_::(z.x.H++z.top m)) Ih<|Lq I (AM I KI I RF)<|Lm I<|Lq I Xg<|Mv 2 I<|Yf 112 I A1<|Mv 2 I<|EJ Pz I Xe I<|Lo Xb 2 I<|LW I<|RT [_,_] (z.top m) (HA:=z.x.H) (Ug k.lh.ok) I I I call35 I Tt<|λ_ _=>Pre.world (St _ _<|_::_::(z.x.H++z.top m)) Ih ?_
 exact Mv 2 I<|Ak I<|Al<|AD<|Ae<|Ae<|Av I I<|λ_ h=>⟨(),congrArg Eb Dt,T0,h.perm (z.Xdh m).symm⟩
def XkK (x:Nat):Df prog 55 [.slice (some ⟨x,0,none⟩) 1 1] Tr [Ac x 3 [aa 0]] (λ_:Unit=>.tuple #[.slice (some ⟨x,0,none⟩) 0 1,aa 0]) Tr (λ_=>[Ac x 3 [aa 0]]):=by
 intro w a z;refine Ey func55 I z ?_;exact Y I<|Nh I<|A I<|E<|LZ (rg 13) 1062882 (λy=>(Ac x 3 [aa 0]).at y) I St.drawn uP<|Md 2 I<|Dq I Zx<|Dq I (Ci I I I K)<|Dq I (GY 0 I KI Z3 I I K K)<|Md 2 I<|Dq I Zx<|Dq I (Ci I I I K)<|Dq I (Ic 0 I KI Z3 I I K J)<|Dq I xB<|Sz I<|KC I<|R I I uW<|AN<|Kt<|s<|Bw (rs:=[.tmp 2,.tmp 3]) I I xm
def vat (h:x.Ok B) {U:Nat->Prop} {N:Nat->Nd} (b:Xc U N x.hm) (a:U 0) (y:ce) (z:Nat):Df prog 56 [BM x.bh,.slice y 0 z,aa 0] Tr (x.H) (λs:N4=>.agg (⟨s,N 0⟩:NV).c.toArray) Tr (λs=>Bo (⟨s,N 0⟩:NV)++x.H):=by
 intro w f d;refine Ey func56 I d<|Y I<|Z I<|Ax I I I zeroValue135<|λg=>M NZ.c I<|Nk<|Y I<|C 2 I<|Z I<|Ee [_] (UO h b a) I call71 Tt<|λs _=>Pre.world (St _ _<|_::_::_::_::_::HQ.H x) Ih ?_
 refine C 3 I<|Z I<|Ax I I I zeroValue135<|λe=>M NZ.c I<|Z I<|SW AK I Nc<|A I<|E<|Y I<|C 5 I<|Z I<|E1 (Lt.aX (va:=.slice y 0 z) ([]:bf) 0 K) I call105 (λ_ _=>⟨y,z,rfl,qc _,.inl rfl⟩)<|λ_ _=>Lq I (Qz I)<|Nk<|Sb 21 false I A3<|Ab I<|Ah<|Kt<|Y I<|Lq I (Cq ((⟨s,N 0⟩:NV).c) AV AK 0 I (I)<|I)<|AD<|Z I<|SW AK I Nc<|Nk<|Al<|p 12 [2,3,4,5,6,7,8,9,10,11,0,1] I ?_
 exact Pm [11,10] I ZHP
def XkL (h:x.Ok B) {U:Nat->Prop} {N:Nat->Nd} (f:Xc U N x.hm) (d:U 0) (z:(N 0).leaf) (y a b:Nat):Df prog 54 [.slice (some ⟨y,0,none⟩) 1 1,pV a,pV b] Tr (Ac y 3 [aa 0]::Ac a 47 [BM x.bh]::x.H) (λv:d0=>v) Tr (λv=>AG v 79 En.enc (N 0).es::Ac y 3 [aa 0]::Ac a 47 [BM x.bh]::x.H):=by
 intro w j g;refine Ey func54 I g<|Y I<|A I<|Y I<|Lm I<|Z I<|Bp (XkK y) I I I call55 I Tt<|λ_ _=>Lm I<|C 3 I<|A I<|Y I<|Lo Vs 1 I<|C 2 I<|Z I<|Ee [_,_] (vat h f d _ _) I call56 Tt<|λs _=>Pre.world (St _ _<|_::_::_::_::_::_::HQ.H x) Ih ?_
 refine Z I<|Ax I I I zeroValue135<|λi=>M NZ.c I<|Z I<|SW AK I Nc<|Ns<|Y I<|EJ Bj I Z4 I<|Lo G4 0 I<|Nk<|Sb 21 true I (z)<|Am I<|Y I<|EJ Bj I RQ I<|Lo UN 0 I<|A I<|Al<|Ag<|Pm [2,6,6,6,6,6,6] I<|Pm [7,8,8,8,8,7] I<|Ae ?_
 skip
 exact Av I I<|λ_ h=>⟨s.e.v,rfl,T0,h.sublist<|List.Sublist.cons_cons _<|(List.Sublist.cons _<|List.Sublist.cons _<|List.Sublist.cons _<|tG _)⟩
def Xlr (h:x.Ok B) {U:Nat->Prop} {N:Nat->Nd} (e:Xc U N x.hm) (d:U 0) (b:(N 0).leaf):Df prog 20 [BM x.bh] Tr (x.H) (λv:d0=>v) Tr (λv=>AG v 79 En.enc (N 0).es::x.H):=by
 intro w g f;refine Ey func20 I f<|Y I<|Z I<|AT I I I I<|λz=>M [BM x.bh] I<|A I<|Y I<|Z I<|Ax I I I zeroValue129<|λy=>Nk<|Y I<|Lq I (BU (fn:=.func 0) (us:=#[pV z,pV y]) 54 I (vs:=#[]) Vu<|λa k=>by simp[k.eval (x:=.tmp 1) rfl,k.eval (x:=.tmp 3) rfl])<|Z I<|AB I I sizeOf129 I I I (rO I)<|M [.func (.func 54) #[] #[pV z,pV y]] I<|Nk<|Y I<|Lo isAgg129 0 I<|Z I<|As (sz:=1) [.const<|aa 0] I I I I I KI Z3 I zeroValue3 I<|λc=>Pm [1] I<|Z I<|Nz [_] (vs:=[.slice (some ⟨c,0,none⟩) 1 1]) (us:=[pV z,pV y]) (XkL h e d b c z y) I I I I call54 I Tt<|λv _=>Pre.world (St _ _<|_::_::_::_::HQ.H x) Ih ?_
 exact A I<|s<|Pm [0,1,1] I<|Ae<|Ae<|Ae uc
def Xls (k:O9 z m B) {N:Nat->Nd} {G:Gh} (hj:HJ N G m) (h:(N 0).leaf):Df prog 20 [BM z.x.bh] Tr (z.H m) (λv:d0=>v) Tr (λv=>AG v 79 En.enc (N 0).es::z.H m) :=
 HC.kU (A:=λv:d0=>[AG v 79 En.enc (N 0).es]) (Xlr k.lh.ok (k.zH hj) hj.t.r.1 h) oY
def dd (h:x.Ok B):Df prog 97 [BM x.bc] Tr x.H (λb:d0×cO=>b.1) (λb=>b.2.map _root_.Go.Proofs.YtloldofjddbjoaaGreat.vw=x.q.M.fr) (λb=>AG b.1 202 FC.ZC b.2::x.H):=λw y z =>
 (eR h w y z).mono<|λe w' ⟨b,h1,h2,h3⟩=>⟨(b.1,b.2.1),h1,h2.1,h3.sublist<|List.Sublist.cons_cons _<|tX _ _⟩
def Xc1 (h:x.Ok B) {k:Nat} {l:LC} (y:x.lt[k]?=some l):Df prog 98 [BM l.b] Tr x.H (λ_:Unit=>.bool<|Lt.idleB l.m) Tr (λ_=>x.H) :=
 HQ.kV (A':=λ_:Unit=>[]) y (Lt.XjB Zv h.b9 l.b l.vR l.vQ) oY
structure iS (L:Hm):Prop where
 fr:∀v∈L.M.fr,(v.st=0\/v.st=2)/\v.pins=0
 la:∀l∈L.la,Lt.idleB l=true
 ln:L.M.line=[]
def Xlf (h:x.Ok B) (g:iS x.hm):Df prog 48 [BM x.bh] Tr (x.H) (λ_:Unit=>.bool true) Tr (λ_=>x.H):=by
 intro w A p;refine Ey func48 I p<|Ad ?_;have r:(x.lt.map LC.b).length=x.lt.length:=qY ..;have s:x.lt.length<=64:=by rw[h.ll];exact h.q.ok.n64
 have j:=h.ll;refine Cr I<|Ak I<|Ad<|Cs I<|Mv 2 I<|EJ Pz I SS I<|Lo TW 0 I<|LW I<|Ee [] (dd h) I call97 Tt ?_;rintro⟨vf,fs⟩ z;refine Pre.world (St _ _<|_::HQ.H x) Ih ?_;dsimp only at z;have u:fs.length=x.lt.length:=by rw[j,<-z,qY]
 refine Lq I (AM I YG I<|SN 0 I)<|uG ?_;refine Bm (λ(i:Nat)=>[(0,BM x.bh),(9,vf),(10,aa (fs.length:Int)),(11,aa (i:Int))]) (λ(i:Nat)=>St w (dom x.H)<|AG vf 202 FC.ZC fs::x.H) (λ(i:Nat)=>i<=fs.length) (λ(i:Nat)=>fs.length-i) (0) (qc _) (Si I) Ih<|λi hi=>Cs I<|yR ?_
 refine CB 12 I (λk=>?_)<|λk=>?_
 .obtain⟨f,n⟩:=gE fs i;obtain⟨l,e⟩:=gE x.lt i;have o:(x.lt.map LC.b)[i]?=some l.b:=by rw[qq,e];rfl
  have d:=g.fr (_root_.Go.Proofs.YtloldofjddbjoaaGreat.vw f)<|by show _∈x.q.M.fr;rw[<-z];exact qj.2 ⟨f,ry n,rfl⟩
  have y:f.st=0\/f.st=2:=d.1;have c:f.pins=0:=d.2;have a:=g.la l.m<|tR<|ry e;refine Am I<|Ah<|Ks<|Af<|Cs I<|Lm I<|Lq I (Aw i I YG sizeOf202 I (SN 0 I) I I)<|Lq I (Bc i I isAgg202 sizeOf202 I I (SN 0 I) n)<|LW I<|Ax I I I zeroValue202<|λC=>Nh I<|LW I<|AF I I sizeOf202 I I I (FC.Xdg f) (by show 0+13<=13;decide)<|Ce (FC.cA f) (Sep.oR I)<|Nk<|Cs I<|EJ dJ I Z3 I<|Lo G3 0 I<|Mv 2 I ?_
  rcases y with y|y
  .refine Sb 19 false I wg (Mv 5 I<|EJ dJ I Z3 I<|Lo G3 0 I<|Lq I vd<|Mv 2 I<|Sb 29 false I wg<|Mv 2 I<|EJ Pz I Yh I<|Lo isAgg88 2 I<|Lm I<|Lq I (Aw i I Y7 sizeOf203 I yp I I)<|Lq I (AO i 0 I isAgg203 I I yp o I)<|Pm [3,3,3,3,3] I<|Pm [5,5,5] I<|LW I<|Ee [_,_] (Xc1 h e) I call98 Tt<|λ_ _=>Pre.world (St _ _<|_::_::HQ.H x) Ih ?_);refine LH 37 (.bool true) I Vl<|Mv 2 I<|Nk<|WG ?_;exact vV
  refine Sb 19 true I wg (EJ dJ I Z3 I<|Lo G3 0 I<|Mv 3 I<|Sb 24 false I wg<|EJ dJ I Z3 I<|Lo G3 0 I<|Lq I vd<|Mv 2 I<|Sb 29 false I wg<|Mv 2 I<|EJ Pz I Yh I<|Lo isAgg88 2 I<|Lm I<|Lq I (Aw i I Y7 sizeOf203 I yp I I)<|Lq I (AO i 0 I isAgg203 I I yp o I)<|Pm [4,4,4,4] I ?_);refine Pm [4,4,4,4] I<|LW I<|Ee [_,_] (Xc1 h e) I call98 Tt<|λ_ _=>Pre.world (St _ _<|_::_::HQ.H x) Ih<|LH 37 (.bool true) I Vl<|Mv 2 I<|Nk<|WG ?_
  exact vV
 refine Ab I (AP<|Aa<|Aa<|Ar<|Kt<|Cs I<|Mv 2 I<|EJ Pz I SS I<|Lo TW 1 I<|LW I<|Ee [_] (XcQ h) I call99 Tt<|λv _=>Pre.world (St _ _<|_::_::HQ.H x) Ih ?_);exact Lq I (AM I KI I RF)<|Lq I (Qe I)<|Ak I<|Al<|Pm [1] I<|Ae<|Ae<|Av I I<|λ_ t=>⟨(),congrArg Eb (by rw[show x.q.M.line=[] from g.ln];rfl),T0,t⟩
def nW (k:O9 z m B) (h:iS m.L):Df prog 48 [BM z.x.bh] Tr (z.H m) (λ_:Unit=>.bool true) Tr (λ_=>z.H m) :=
 HC.kU (A:=λ_:Unit=>[]) (Xlf k.lh.ok uz) oY
def oA:Opn:=⟨1,⟨#[97]⟩,⟨#[49]⟩,0,by decide,by decide⟩
def oB:Opn:=⟨3,⟨#[97]⟩,⟨#[]⟩,1,by decide,by decide⟩
def YS:List (cv):=[[oA],[oB]]
def lW (N:Nat->Nd) (L:Hm):Nat->Nd:=λb=>if (L.M.Me (b:Int) 2).isSome=true then L.nd (b:Int) else N b
def Oo:Nat->(Nat->Nd)×HM
 |0=>(Lg,WR 4 9 0 YS)
 |k+1=>(lW (Oo k).1 (DY (Oo k).1 (Oo k).2 (k:Int)).L,DY (Oo k).1 (Oo k).2 (k:Int))
def Xlt:(Oo 60).2.cs.all Cl.ended=true/\(Oo 60).2.ev.length=4/\(Oo 60).2.sq=3:=by decide +kernel
def Xlu:(∀v∈(Oo 60).2.L.M.fr,(v.st=0\/v.st=2)/\v.pins=0)/\(∀l∈(Oo 60).2.L.la,Lt.idleB l=true)/\(Oo 60).2.L.M.line=[]:=by decide +kernel
def Xlv:((Oo 60).1 0).leaf=true/\((Oo 60).1 0).es.length=1/\(((Oo 60).1 0).es.map<|λe=>e.val.n).all (λn=>decide (0<n))=true:=by decide +kernel
def XkM {x:Nat->Nd} (h:HJ x G m) (y:Xd N m.L x):x=lW N m.L:=by
 funext b;unfold lW;by_cases ho:m.L.M.on (b:Int) 2
 .rw[pN<|h.s.h.Ti.2 ho];exact (h.s.no ho).2.symm
 rw[pQ<|λe=>ho<|h.s.h.Ti.1 e];exact y b ho
def O9.go (k:O9 z m B) {N:Nat->Nd} {G:Gh} (hj:HJ N G m) (x:TD N m) (p:Int):(∀t∈Sc.oZ m.T,bY N m t)/\Ui N (DY N m p).L/\∃N' G',HJ N' G' (DY N m p)/\TD N' (DY N m p)/\Xd N (DY N m p).L N' :=
 hj.step x (B:=B) (by rw[<-k.lh.hm];exact k.lh.ok.q.ok) (λf h=>by have y:=k.ng f h;have:=k.lh.ok.b9;omega) p
def ib (k:O9 z (Oo i).2 B) (hj:∃G,HJ (Oo i).1 G (Oo i).2) (b:TD (Oo i).1 (Oo i).2):(∀t∈Sc.oZ (Oo i).2.T,bY (Oo i).1 (Oo i).2 t)/\Ui (Oo i).1 (Oo<|i+1).2.L/\(∃G,HJ (Oo<|i+1).1 G (Oo<|i+1).2)/\TD (Oo<|i+1).1 (Oo<|i+1).2:=by
 obtain⟨G,hj⟩:=hj;obtain⟨y,d,a,x,h,c,f⟩:=k.go hj b (i:Int);have e:a=(Oo<|i+1).1:=XkM h f;subst e;exact⟨y,d,⟨x,h⟩,c⟩
def Xlw {w:d7} {v:d0} {y x:Sv} {a l1:cv} (h:Ec w v EY [y,x]) (c:Ec w y.v Opn.enc a) (d:Ec w x.v Opn.enc l1):Y5 w v [y,x] [a,l1]:=⟨h,rfl,λi s l z b=>by
 match i with
 |0=>cases z;cases b;exact c
 |1=>cases z;cases b;exact d
 |i+2=>simp at z⟩
def Xlx (e:En):e.c[9]?=some (aa e.val.n):=by
 unfold En.c;rw[pO xR,Kv.oQ];rfl
def de:∀l∈YS,∀o∈l,gI o:=λl x o h=>by
 simp[YS] at x
 rcases x with rfl|rfl
 .simp at h;subst h;exact⟨K,.inl rfl⟩
 .simp at h;subst h;exact⟨K,.inr<|.inr VY⟩
def Xlg:HJ (Oo 0).1 gL (Oo 0).2:=lI (nb:=4) (nf:=9) (fl:=0) (ls:=YS) K K K de _
def Xlh:TD (Oo 0).1 (Oo 0).2:=Xdf (nb:=4) (nf:=9) (fl:=0) (ls:=YS) K
def Xes :Df prog 17 [] Tr [] (λ_:Unit=>.bool true) Tr (λ_=>[]):=by
 intro w T E;refine E0 func17 I E ?_;refine Y I<|Ak I<|Y I<|Lq I (AS (Opn.c oA) I I uX)<|Z I<|As (sz:=4) [.tmp 6] I I I I I TM U7 I zeroValue43 I<|λm=>Lq I (AS (Opn.c oB) I I uX)<|Z I<|As (sz:=4) [.tmp 8] I I I I I TM U7 I zeroValue43 I<|λq=>Z I<|As (sz:=1) [.tmp 7,.tmp 9] I I I I I U6 UR I zeroValue40 I<|λu=>Lq I (AS ([aa ((4:Nat):Int),aa ((9:Nat):Int),aa ap,.slice (some ⟨u,0,none⟩) 2 2]) I I uX)<|Z I<|J8 [_,_,_] (HA:=[]) (XcZ (vs:=[⟨some ⟨m,0,none⟩,1,1⟩,⟨some ⟨q,0,none⟩,1,1⟩]) (ls:=YS) (nb:=4) (nf:=9) (fl:=0) A2 A2 A2 A2 A2 A2 A2 (λl d=>by simp[YS] at d;rcases d with rfl|rfl<;>simp) (λl d o O=>by have:=(de l d o O).2;omega)) rfl rfl rfl call18 rfl (λ_ h=>Xlw (AR (h.at 0 rfl) EY [⟨some ⟨m,0,none⟩,1,1⟩,⟨some ⟨q,0,none⟩,1,1⟩] rfl rfl) (AR (h.at 2 rfl) Opn.enc [oA] rfl rfl)<|AR (h.at 1 rfl) Opn.enc [oB] rfl rfl) (λz p=>Lm I<|Mv 3 I<|Ak I<|Ad<|Y I<|Mv 3 I<|Ae<|Ae<|Ae<|Sb 17 false I (I)<|Lm I<|Lq I (E3 I underlying24 I I)<|Mv 2 I<|Sb 21 false I (I)<|Lm I<|Z I<|Ee [] (Pr p) I call19 Tt ?_)
 intro _ _;refine Pw (St _ _<|HC.H z<|WR 4 9 0 YS) ?_;refine Lq I (E3 I underlying47 I I)<|Lq I (Qz I)<|Nk<|Sb 25 false I (I)<|Ab I<|Ah<|Ks<|Y I<|Ak I<|Af<|Pw (St w []<|HC.H z (Oo 0).2) ?_;refine B6 (λ(i:Nat) (z:HC)=>[(1,BM z.bH),(3,aa (i:Int))]) (λ(i:Nat) (z:HC)=>St w []<|HC.H z (Oo i).2) (λ(i:Nat) (z:HC)=>i<=60/\O9 z (Oo i).2 (2*i)/\(∃G,HJ (Oo i).1 G (Oo i).2)/\TD (Oo i).1 (Oo i).2) (λ(i:Nat) (z:HC)=>60-i) (0) z ⟨A2,p,⟨_,Xlg⟩,Xlh⟩ (Si I) Ih<|λi z D=>Ad<|Ad ?_
 obtain⟨hi,x,hj,P⟩:=D;refine Cr I<|Mv 2 I<|Nk<|CB 27 I (λk=>?_)<|λk=>?_
 .refine Am I (Ah<|Ks<|Af<|Cr I<|Mv 2 I ?_);obtain⟨r,K,B,v⟩:=ib x hj P;have L:=IM (Oo i).1 x A1 (by have:=x.pk;omega) r (i:Int) K;refine Z I<|Ee [] L I call13 Tt ?_;rintro y ⟨g,f⟩;refine Pw (St _ _<|HC.H y (Oo<|i+1).2) ?_;refine AE<|Au<|Kt<|Cr I<|Lm I<|Lq I (Qi I)<|Nh I<|AE<|LH 1 (BM y.bH) I WL ?_;exact AJ ((i+1,y)) A4 ⟨A4,f,B,v⟩ (Si I) Jx
 have a:i=60:=by omega
 subst a;obtain⟨G,hj⟩:=hj;obtain⟨C,R,S⟩:=Xlt;obtain⟨A,M,N⟩:=Xlu;obtain⟨t,Q,J⟩:=Xlv;refine Ab I<|AP<|Aa<|Aa<|Ar<|Kt<|Y I<|Lm I<|Z I<|Ee [] (Pr x) I call19 Tt<|λ_ _=>Pw (St _ _<|HC.H z (Oo 60).2)<|Z I<|Ee [] (Xls x hj t) I call20 Tt<|λU _=>Pre.world (St _ _<|_::HC.H z (Oo 60).2) Ih<|Ak I<|Y I<|Lm I ?_
 obtain⟨j,b⟩:∃e,((Oo 60).1 0).es[0]?=some e:=⟨_,pE A1⟩
 have s:0<j.val.n:=by
  have F:=rT.1 J _<|qj.2 ⟨j,ry b,rfl⟩;exact sW F
 refine Z I<|Ee [_] (XkG x) I call12 Tt<|λ_ _=>Pre.world (St _ _<|_::HC.H z (Oo 60).2) Ih<|LH 37 (.bool true) I (by rw[C])<|Mv 2 I<|Z I<|Ee [_] (gP x) I call15 Tt<|λV _=>Pre.world (St _ _<|_::_::HC.H z (Oo 60).2) Ih<|Lq I (AM I Wh I RF)<|Mv 3 I<|Sb 44 true I yv<|Lm I<|Z I<|Ee [_,_] (Xlo x) I call47 Tt<|λ_ _=>Pre.world (St _ _<|_::_::HC.H z (Oo 60).2) Ih ?_
 refine Mv 3 I<|Sb 49 true I yv<|Lm I<|Lq I (AM I O8 I ur)<|Mv 3 I<|Sb 54 true I yv<|Lm I<|Lq I (Aw 0 I O8 Qc I ur I I)<|EJ Rj I O6 I<|EJ VX I Z3 I<|Lq I (AO 0 9 I G3 I I ur b<|Xlx j)<|Lq I vd<|Mv 2 I<|Sb 62 true I yv<|Lm I<|Z I<|Ee [_,_] (Pr x) I call19 Tt<|λ_ _=>Pre.world (St _ _<|_::_::HC.H z (Oo 60).2) Ih ?_
 refine Z I<|Ee [_,_] (nW x ⟨A,M,N⟩) I call48 Tt<|λ_ _=>Pre.world (St _ _<|_::_::HC.H z (Oo 60).2) Ih ?_
 exact Lq I (Qy I) XF
def X7.hj (h:X7 r):HJ Lg gL (WR r.nb r.nf r.fl<|r.b.ops r.n):=by
 have x:=r.b.zT h.n4;exact lI h.nb1 (by have:=h.nb2;omega) (by have:=h.n4;have:=h.f3;omega) (λl x o y=>((h.each x).2 o y).2.2) _
def X7.td (h:X7 r):TD Lg (WR r.nb r.nf r.fl<|r.b.ops r.n):=by
 have x:=r.b.zT h.n4;exact Xdf (by have:=h.n4;have:=h.f3;omega)
def Xfl {va p:d0} (v B:Int) (xs a:bf) (t:xs.length*8<=140737488351232) (J:a.length<=9223372036854775807):Df prog 10 [aa v,aa B,va,p] (λw=>Ec w va ds xs/\Ec w p ds a) [] (λ_:Unit=>.bool true) Tr (λ_=>[]):=by
 intro w O E;obtain⟨k,c⟩:=O;refine E0 func10 I E<|Y I<|Ak I<|Y I<|Mv 3 I<|Z I<|Xt (Xfu v B xs t) I I I call32 I k.kp ?_;rintro s ⟨j,q⟩;refine Pre.world (St w []<|s.r.b.H s.r.n++HC.H s.z s.m) (λ_ h=>by rw[sG] at h;exact h) ?_;refine WA ?_;rintro⟨K,P,l⟩;refine Pre.world (St w []<|HC.H s.z s.m) (λ_ h=>h.sublist<|tX _ _) ?_;have d:∀v∈TS s.r.nb s.r.nf s.r.fl s.r.b.vo,v.oneCell'=true:=by rw[l];exact Lh _ _ _ _ _ _
 refine Mv 3 I<|Z I<|Ax I I I zeroValue27<|λU=>Ce [aa 0,aa 0,aa 0,.slice none 0 0] I<|Nh I<|Z I<|SA Vk I d<|Ce (TS s.r.nb s.r.nf s.r.fl s.r.b.vo) I<|Ns<|Y I<|Lm I<|Lq I (E3 I underlying24 I I)<|Nk<|Ae<|Sb 20 false I (I)<|Ab I<|Ah<|Ks<|zF ?_
 refine PE (λ(i:Nat) (z:HC) (m:HM) (N:Nat->Nd) (G:Gh)=>[(3,p),(9,BM z.bH),(11,aa (i:Int))]) (λ(i:Nat) (z:HC) (m:HM) (N:Nat->Nd) (G:Gh)=>St w []<|HC.H z m) (λ(i:Nat) (z:HC) (m:HM) (N:Nat->Nd) (G:Gh)=>i<=250/\i<=a.length/\O9 z m (2*i)/\HJ N G m/\TD N m) (λ(i:Nat) (z:HC) (m:HM) (N:Nat->Nd) (G:Gh)=>a.length-i) (0) s.z s.m Lg gL ⟨qc _,qc _,q,j.hj,j.td⟩ (Si I) Ih<|λi z m N G D=>Ad<|Ad ?_
 obtain⟨hi,S,g,hj,T⟩:=D;refine Cr I<|Mv 2 I<|Lq I ji<|Mv 2 I<|CB 25 I (λL=>?_)<|λL=>?_
 .refine Mv 3 I (Nk<|CB 28 I (λF=>?_)<|λF=>?_)
  .obtain⟨x,A⟩:=gE a i;obtain⟨C,Q,R,M,f,u,_⟩:=g.go hj T x;refine Am I<|Ah<|Ks<|Af<|Y I<|Mv 3 I<|Lq I vg<|Lq I (AO i 0 I G3 I I c.kp A I)<|Z I<|Ee [] (IM N g A1 (by have:=g.pk;omega) C x Q) I call13 Tt ?_;rintro y ⟨o,e⟩;refine Pw (St _ _<|HC.H y<|DY N m x) ?_;refine Nk<|Y I<|Mv 2 I<|Lq I wB<|Lq I (Qe I) ?_;rw[<-o];refine Z I<|Ee [] (UQ e f _) I call36 Tt<|λ_ _=>Pw (St _ _<|HC.H y<|DY N m x)<|Lq I (Qt I)<|Nk<|YM ?_
   exact AJ ((i+1,y,DY N m x,R,M)) A4 ⟨A4,A4,e,f,u⟩ (Si I) Jx
  refine Ab I (AP<|Aa<|Aa<|Ar<|Kt<|Y I<|Lm I<|Z I<|Ee [] (UQ g hj _) I call36 Tt<|λ_ _=>Pw (St _ _<|HC.H z m) ?_);exact ZG1
 refine Mv 3 I (Nk<|Ab I<|AP<|Aa<|Aa<|Ar<|Kt<|Y I<|Lm I<|Z I<|Ee [] (UQ g hj _) I call36 Tt<|λ_ _=>Pw (St _ _<|HC.H z m) ?_);exact ZG1
def df (l:bf):ds.flat l=l.map (.int .i64):=KJ ds (Value.int .i64) (λ_=>rfl) l
theorem topNodes_walk (w:d7) (a0:Int) (w0:(Lit.int .i64 a0).wf) (c:Int) (l:(Lit.int .i64 c).wf) (g:ce) (b:Nat) (h:bf) (a:Rd w w.heap.size g<|h.map<|.int .i64) (l2:h.length<=b) (k:b<=maxLen) (m:∀z∈h,(Lit.int .i64 z).wf=true) (i:h.length*8<=140737488351232)
 (f:ce) (d:Nat) (x:bf) (y:Rd w w.heap.size f<|x.map<|.int .i64) (l3:x.length<=d) (j:d<=maxLen) (n:∀z∈x,(Lit.int .i64 z).wf=true) :
 Calls prog 10 #[aa a0,aa c,.slice g h.length b,.slice f x.length d] w λe w'=>e=.returned (.bool true)/\Below w.heap.size w w':=by
 rw[<-df] at a y;exact Xhb (Xfl a0 c h x i<|qM l3<|qM j<|qb _) ⟨Xca a l2,Xca y l3⟩