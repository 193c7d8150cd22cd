/- Part 14. -/
import Derived.Test.YtloldofjddbjoaaGreatJ13
set_option linter.all false
set_option maxHeartbeats 8000000
set_option maxRecDepth 100000
namespace Go.Proofs.YtloldofjddbjoaaGreat
open Go.Sep Go.RowKit Tryz
variable {x:HQ} {B nx:Nat} {t:Int} {E:aU} {β:Type} {m:Ms}
def Xkf (h:x.Ok B) {N:Nat->Nd} (b:Ui N x.hm):Df prog 71 [BM x.bh,aa 0] Tr x.H (λs:N4=>.tuple #[.agg (⟨s,x.hm.UJ N⟩:NV).c.toArray,.bool true]) Tr (λs=>Bo (⟨s,x.hm.UJ N⟩:NV)++x.H):=by
 cases hf:(x.hm.M.Me 0 2).isSome with
 |true =>
  have e:x.hm.UJ N=(x.q.M.at'<|x.hm.fi 0).nd:=by unfold Hm.UJ;rw[pN hf];rfl
  rw[e];exact XcS h (x.hm.SV hf)
 |false =>
  have e:x.hm.UJ N=N 0:=by unfold Hm.UJ;rw[pQ<|by rw[hf];decide]
  obtain⟨a,bk,z,hd⟩:=b.d hf;have y:x.q.M.Me ap 2=none:=ti.1<|by rw[<-Option.not_isSome,show (x.q.M.Me ap 2).isSome=false from hf];rfl
  rw[e];exact Z1 h (k:=0) a y z hd
def Xk4 (h:x.Ok B) {N:Nat->Nd} (y:Ui N x.hm):Df prog 148 [BM x.bh] Tr (x.H) (λ_:Unit=>.bool<|Gc<|x.hm.UJ N) Tr (λ_=>x.H):=by
 intro w b z;refine Ey func148 I z<|Y I<|A I<|Y I<|r I<|Z I<|Ee [] (Xkf h y) I call71 Tt<|λs _=>Pre.world (St _ _<|_::_::_::_::HQ.H x) Ih ?_
 exact C 3 I<|Z I<|Ax I I I zeroValue135<|λa=>M NZ.c I<|Z I<|SW AK I Nc<|A I<|Y I<|C 2 I<|U I (Cq ((⟨s,x.hm.UJ N⟩:NV).c) AV AK 0 I (I)<|I)<|Z I<|E1 (LG (⟨s,x.hm.UJ N⟩:NV) y.sm) I call136 yJ<|λ_ _=>U I (Qy I)<|A I<|Al<|Ae<|Ae<|Ae<|Ae<|Ae LF
def Df.conv {P:d8} {f:FuncId} {vs:bi} {H h:ci} {γ:Type} {u:d0} {p:β->Prop} {x:γ->Prop} {HB:β->ci} {HB':γ->ci} (s:Df P f vs E H (λ_:β=>u) p HB) (c:h=H) (g:β->γ) (y:∀b,p b->x (g b)/\HB b=HB' (g b)):Df P f vs E h (λ_:γ=>u) x HB':=λw z a=>by
 subst c
 exact (s w z a).mono<|λe w' ⟨b,h1,h2,h3⟩=>⟨g b,h1,(y b h2).1,by rw[<-(y b h2).2];exact h3⟩
def SH (N:Nat->Nd) (L:Hm) (r:Ie):Hm×Ie×Bool :=
 if r.at'=1 then ((L.pin r.t r.blk).2,r.pinned (L.pin r.t r.blk).1,false)
 else if r.at'=2 then (L.load r.blk<|N r.blk,{r with at':=3},false)
 else if r.at'=3 then (L.take (L.fi r.blk) r.t false,if r.UZ=true then {r with at':=4} else {r with at':=5},false)
 else if r.at'=4 then (L.leave (L.fi r.par) r.t r.par,{r with at':=5,UZ:=false},false)
 else match (L.nd r.blk).kids[EL (L.nd r.blk).piv r.k]? with
  |some kid=>(L,r.down (L.nd r.blk).msgs kid.toNat,false)
  |none=>(L.leave (L.fi r.blk) r.t r.blk,r.fin (L.nd r.blk).es,true)
def kS (N:Nat->Nd) (L:Hm) (k:Nat) (t:Int):Prop:=L.s.us[k]?=some true/\Cw (k:Int) L.rd=some t/\(∃bk,L.s.bl[k]?=some bk/\IE bk.l (N k))/\(N k).Sm 1000
def X5 (N:Nat->Nd) (L:Hm) (r:Ie):Prop :=
 if r.at'=1 then L.s.us[r.blk]?=some true/\r.blk<=256
 else if r.at'=2 then kS N L r.blk r.t
 else if r.at'=3 then (L.M.Me r.blk 2).isSome=true
 else if r.at'=4 then (L.M.Me r.par 2).isSome=true/\FH (L.OG<|L.fi r.par) r.t=true
 else r.at'=5/\(L.M.Me r.blk 2).isSome=true/\((∃kid:Nat,(L.nd r.blk).kids[EL (L.nd r.blk).piv r.k]?=some (kid:Int)/\Bt Ms.key (L.nd r.blk).msgs)\/((L.nd r.blk).kids=[]/\Dl (L.nd r.blk).es/\FH (L.OG<|L.fi r.blk) r.t=true))
def XbH (h:x.Ok B) (i:B+1<=60000) (b:Nat) (r:Ie) (ht:OJ r.t) (z:x.hm.may r.t) (N:Nat->Nd) (a:X5 N x.hm r):Df prog 77 [BM b,BM x.bh] Tr (Ot b r::x.H) (λ_:HQ=>.bool (SH N x.hm r).2.2) (λy=>y.bh=x.bh/\y.Ok (B+1)/\y.hm=(SH N x.hm r).1) (λy=>Ot b (SH N x.hm r).2.1::y.H):=by
 have d:∀{y:HQ},y.Ok B->y.Ok (B+1):=λk=>k.mono J i
 unfold X5 at a;unfold SH;by_cases h1:r.at'=1
 .rw[pN h1] at a;simp only[h1,qX];exact XkZ h b r ht z h1 i a.1 a.2
 rw[pQ h1] at a;simp only[h1,r9];by_cases h2:r.at'=2
 .rw[pN h2] at a;obtain⟨o,e,⟨bk,s,p⟩,g⟩:=a;simp only[h2,qX];exact Df.conv (ko h b r ht z h2 o e s (nd:=N r.blk) p g) I id mW
 rw[pQ h2] at a;simp only[h2,r9];by_cases h3:r.at'=3
 .rw[pN h3] at a;simp only[h3,qX];exact Xkw h b r ht z h3 i<|x.hm.SV a
 rw[pQ h3] at a;simp only[h3,r9];by_cases h4:r.at'=4
 .rw[pN h4] at a;simp only[h4,qX];exact Df.conv (fc h b r ht z h4 (x.hm.SV a.1) a.2) I id mW
 rw[pQ h4] at a;simp only[h4,r9];obtain⟨j,l,n⟩:=a;rcases n with⟨m,f,e⟩|⟨f,e,q⟩
 .rw[f];exact Df.conv (kA h b r ht z j (x.hm.SV l) e f) I (λ_=>x)<|λy c=>⟨⟨rfl,d h,rfl⟩,rfl⟩
 rw[show (x.hm.nd r.blk).kids[EL (x.hm.nd r.blk).piv r.k]?=none by rw[f];rfl];exact Df.conv (mN h b r ht z j (x.hm.SV l) f e q) I id mW
def VB (N:Nat->Nd) (t:Int) (L:Hm) (m:Ms) (v:Wx):Hm×Wx×Bool :=
 if v.a=0 then ((L.pin t ap).2,⟨(H9 (L.pin t ap).1).1,(H9 (L.pin t ap).1).2,none,0⟩,false)
 else if v.a=1 then (L.load 0<|N 0,⟨2,true,none,0⟩,false)
 else if v.a=2 then (L.take (L.fi 0) t true,⟨3,true,none,0⟩,false)
 else if v.a=3 then
  if (L.nd 0).leaf=true then
   if Gn (DT (L.nd 0) m)=true then ((L.N7 0<|DT (L.nd 0) m).leave (L.fi 0) t 0,⟨5,false,none,0⟩,true) else (L,⟨4,true,some<|SK true,0⟩,false)
  else if G9 (D2 (L.nd 0) m)=true then ((L.N7 0<|D2 (L.nd 0) m).leave (L.fi 0) t 0,⟨5,false,none,0⟩,true) else (L,⟨4,true,some<|SK true,0⟩,false)
 else match v.r with
  |some r=>(X6 t (Nb N L t r).1 (Nb N L t r).2,Y1 (Nb N L t r).2,false)
  |none=>(L,v,false)
def bF (N:Nat->Nd) (t:Int) (L:Hm) (m:Ms) (v:Wx):Prop :=
 if v.a=0 then v=⟨0,false,none,0⟩/\L.s.us[0]?=some true
 else if v.a=1 then v=⟨1,true,none,0⟩/\kS N L 0 t
 else if v.a=2 then v=⟨2,true,none,0⟩/\(L.M.Me 0 2).isSome=true
 else if v.a=3 then v=⟨3,true,none,0⟩/\L.Rz t 0 /\
  (if (L.nd 0).leaf=true then Dl (L.nd 0).es/\Dl (Dw (L.nd 0).es m)/\(Gn (DT (L.nd 0) m)=true->(DT (L.nd 0) m).Sm 1000)
   else Bt Ms.key (L.nd 0).msgs/\Bt Ms.key (Ek (L.nd 0).msgs m)/\(G9 (D2 (L.nd 0) m)=true->(D2 (L.nd 0) m).Sm 1000))
 else ∃r,v=⟨4,true,some r,0⟩/\Vh N L t r/\((Nb N L t r).2.a=11->¬(Nb N L t r).2.e=0->(Nb N L t r).1.has t 0)
def Xkg (i:B+1<=60000) {t:Int} {m:Ms} {sq:Int} (h:(Lit.int .u64 sq).wf) {N:Nat->Nd} {v:Wx} (y:bF N t x.hm (m.oT sq h) v):∃B2,B2<=B+1/\B<=B2/\WX x B N t m sq v (VB N t x.hm (m.oT sq h) v).2.1 (VB N t x.hm (m.oT sq h) v).2.2 (VB N t x.hm (m.oT sq h) v).1 B2:=by
 unfold bF at y;unfold VB;by_cases h0:v.a=0
 .rw[pN h0] at y;obtain⟨rfl,e⟩:=y;exact⟨B+1,qb _,J,WX.pin i e⟩
 rw[pQ h0] at y;simp only[h0,r9];by_cases h1:v.a=1
 .rw[pN h1] at y;obtain⟨rfl,e,g,⟨bk,n,k⟩,f⟩:=y;exact⟨B,J,qb _,WX.load e g n (nd:=N 0) k f⟩
 rw[pQ h1] at y;simp only[h1,r9];by_cases h2:v.a=2
 .rw[pN h2] at y;obtain⟨rfl,l⟩:=y;exact⟨B+1,qb _,J,WX.take i<|x.hm.SV l⟩
 rw[pQ h2] at y;simp only[h2,r9];by_cases h3:v.a=3
 .rw[pN h3] at y;obtain⟨rfl,d,z⟩:=y;have c:=x.hm.SV d.1;have j:=d.has.2;simp only[qX];refine⟨B,J,qb _,?_⟩;by_cases b:(x.hm.nd 0).leaf=true
  .rw[pN b] at z;rw[pN b];by_cases hft:Gn (DT (x.hm.nd 0)<|m.oT sq h)=true
   .rw[pN hft];exact WX.leaf h c b z.1 z.2.1 d.2 j hft<|z.2.2 hft
   rw[pQ hft];exact WX.no h c b z.1 z.2.1<|rM.2 hft
  rw[pQ b] at z;rw[pQ b];by_cases hft:G9 (D2 (x.hm.nd 0)<|m.oT sq h)=true
  .rw[pN hft];exact WX.inner h c (rM.2 b) z.1 z.2.1 d.2 j hft<|z.2.2 hft
  rw[pQ hft];exact WX.noI h c (rM.2 b) z.1 z.2.1<|rM.2 hft
 rw[pQ h3] at y;simp only[h3,r9];obtain⟨r,rfl,g,b⟩:=y;exact⟨B+1,qb _,J,WX.room i g b⟩
structure Opn where
 kind:Int
 key:ByteArray
 val:ByteArray
 by':Int
 wk:(Lit.int .i64 kind).wf=true
 wb:(Lit.int .u64 by').wf=true
abbrev cv:=List Opn
def Opn.c (o:Opn):bi:=[aa o.kind,.string o.key,.string o.val,am o.by']
def Opn.one (o:Opn):∀v∈o.c,v.oneCell'=true:=λv h=>by
 simp only[Opn.c,pj,rX,rY] at h
 rcases h with rfl|rfl|rfl|rfl<;>rfl
def Opn.enc:Enc Opn:=⟨4,Opn.c,λ_=>rfl,Opn.one,by decide⟩
structure Ans where
 code:Int
 f:Bool
 v:Kv 16
def Ans.c (a:Ans):bi:=[aa a.code,.bool a.f]++a.v.c
def Ans.oQ (a:Ans):a.c.length=19:=by simp[Ans.c,Kv.oQ]
def Ans.one (a:Ans):∀v∈a.c,v.oneCell'=true:=λv x=>by
 rcases rB.1 x with h|h
 .simp at h;rcases h with rfl|rfl<;>rfl
 .exact Kv.one _ v h
def Jn:Ans:=⟨0,false,Na 16⟩
structure O1 where
 cl:Int
 ix:Int
 d:Bool
 a:Ans
def O1.c (e:O1):bi:=[aa e.cl,aa e.ix,.bool e.d]++e.a.c
def O1.oQ (e:O1):e.c.length=22:=by simp[O1.c,Ans.oQ]
def O1.one (e:O1):∀v∈e.c,v.oneCell'=true:=λv x=>by
 rcases rB.1 x with h|h
 .simp at h;rcases h with rfl|rfl|rfl<;>rfl
 .exact Ans.one _ v h
def O1.enc:Enc O1:=⟨22,O1.c,O1.oQ,O1.one,by decide⟩
def VO (o:Opn):c3:=if h:o.key.size<=8 then ZG o.key h else Na 8
def XQ (o:Opn):Kv 16:=if h:o.val.size<=16 then XR o.val h else Na 16
def Qo (o:Opn):Ms:=⟨o.kind,0,VO o,if o.kind=1 then XQ o else Na 16,if o.kind=3 then o.by' else 0,o.wk,by decide,by split<;>first|exact o.wb|decide⟩
structure Opn.Ok (o:Opn):Prop where
 k:o.key.size<=8
 v:o.kind=1->o.val.size<=16
inductive Ph where
 |idle
 |rd (r:Ie)
 |wr (v:Wx)
def Ph.Xx:Ph->Bool
 |.idle=>true
 |_=>false
structure Cl where
 ops:cv
 nx:Nat
 ph:Ph
def Cl.op (c:Cl):Opn:=c.ops.getD c.nx ⟨0,⟨#[]⟩,⟨#[]⟩,0,by decide,by decide⟩
def Cl.ended (c:Cl):Bool:=c.ph.Xx&&decide (c.nx=c.ops.length)
structure CC where
 b:Nat
 vo:d0
 bw:Nat
 br:Nat
 m:Cl
def CC.ptrs (c:CC):bi:=match c.m.ph with
 |.idle=>[av,av]
 |.rd _=>[BM c.bw,av]
 |.wr _=>[av,BM c.bw]
def CC.more (t:Int) (c:CC):ci:=match c.m.ph with
 |.idle=>[]
 |.rd r=>[Ot c.bw r]
 |.wr v=>v.H t (Qo c.m.op) c.bw c.br
abbrev Oh (b:Nat) (vo:d0) (nx:Nat) (ps:bi):Nr:=Ac b 125<|vo::aa (nx:Int)::ps
def CC.H (t:Int) (c:CC):ci:=Oh c.b c.vo c.m.nx c.ptrs::AG c.vo 43 Opn.enc c.m.ops::c.more t
def yT (t:Int) (c:Cl):O1:=⟨t,c.nx,false,Jn⟩
def yU (t:Int) (c:Cl) (a:Ans):O1:=⟨t,c.nx,true,a⟩
def Cl.done (c:Cl):Cl:={c with nx:=c.nx+1,ph:=.idle}
def m5 (x m i d n c k j h a y z g o l b e:Int) (f:Bool) (w:d7):(Instr.build 58 #[(1,.bool f),(2,.agg [aa x,ab m,ab i,ab d,ab n,ab c,ab k,ab j,ab h,ab a,ab y,ab z,ab g,ab o,ab l,ab b,ab e].toArray)]).run prog w=.ok (.agg [aa 0,.bool f,aa x,ab m,ab i,ab d,ab n,ab c,ab k,ab j,ab h,ab a,ab y,ab z,ab g,ab o,ab l,ab b,ab e].toArray) w:=by kernel_rfl
def om (f:Bool) (v:Kv 16) (w:d7):(Instr.build 58 #[(1,.bool f),(2,.agg v.c.toArray)]).run prog w=.ok (.agg (Ans.c ⟨0,f,v⟩).toArray) w:=by
 obtain⟨m,i,d,o,b,k,j,h,z,x,y,g,p,l,a,e,r⟩:=Nt v;have q:v.c=[aa v.n,ab m,ab i,ab d,ab o,ab b,ab k,ab j,ab h,ab z,ab x,ab y,ab g,ab p,ab l,ab a,ab e]:=by unfold Kv.c;rw[r];rfl
 unfold Ans.c;dsimp only;rw[q];exact m5 v.n m i d o b k j h z x y g p l a e f w
def XlA (t k h y o j e p d m l x b z a i q n c g:Int) (f:Bool) (w:d7):(Instr.build 71 #[(0,aa t),(1,aa k),(2,.bool true),(3,.agg [aa h,.bool f,aa y,ab o,ab j,ab e,ab p,ab d,ab m,ab l,ab x,ab b,ab z,ab a,ab i,ab q,ab n,ab c,ab g].toArray)]).run prog w=.ok (.agg [aa t,aa k,.bool true,aa h,.bool f,aa y,ab o,ab j,ab e,ab p,ab d,ab m,ab l,ab x,ab b,ab z,ab a,ab i,ab q,ab n,ab c,ab g].toArray) w:=by kernel_rfl
def bev (t k:Int) (a:Ans) (w:d7):(Instr.build 71 #[(0,aa t),(1,aa k),(2,.bool true),(3,.agg a.c.toArray)]).run prog w=.ok (.agg (O1.c ⟨t,k,true,a⟩).toArray) w:=by
 obtain⟨h,f,v⟩:=a;obtain⟨q,l,g,r,e,o,m,x,b,y,z,j,s,p,d,i,A⟩:=Nt v;have u:v.c=[aa v.n,ab q,ab l,ab g,ab r,ab e,ab o,ab m,ab x,ab b,ab y,ab z,ab j,ab s,ab p,ab d,ab i]:=by unfold Kv.c;rw[A];rfl
 unfold O1.c Ans.c;dsimp only;rw[u];exact XlA t k h v.n q l g r e o m x b y z j s p d i f w
def nm (ki x a b c d e f g h:Int) (w:d7):(Instr.build 154 #[(0,aa ki),(2,.agg [aa x,ab a,ab b,ab c,ab d,ab e,ab f,ab g,ab h].toArray)]).run prog w=.ok (.agg [aa ki,am 0,aa x,ab a,ab b,ab c,ab d,ab e,ab f,ab g,ab h,aa 0,ab 0,ab 0,ab 0,ab 0,ab 0,ab 0,ab 0,ab 0,ab 0,ab 0,ab 0,ab 0,ab 0,ab 0,ab 0,ab 0,am 0].toArray) w:=by kernel_rfl
def nq (ki:Int) (x:(Lit.int .i64 ki).wf) (k:c3) (w:d7):(Instr.build 154 #[(0,aa ki),(2,.agg k.c.toArray)]).run prog w=.ok (.agg (Ms.c ⟨ki,0,k,Na 16,0,x,by decide,by decide⟩).toArray) w:=by
 obtain⟨a,b,c,d,e,f,g,h,y⟩:=G1 k;have z:k.c=[aa k.n,ab a,ab b,ab c,ab d,ab e,ab f,ab g,ab h]:=by unfold Kv.c;rw[y];rfl
 unfold Ms.c;dsimp only;rw[z];exact nm ki k.n a b c d e f g h w
abbrev OZ (bH:Nat) (vh:d0) (bt:Nat) (vT vO vE:d0) (sq pk:Int):Nr:=Ac bH 100 [vh,BM bt,vT,vO,vE,am sq,aa pk]
def XbI (b a nx:Nat) (x:d0):Df prog 75 [BM b] Tr [Oh b x nx [av,av]] (λ_:Unit=>.bool false) Tr (λ_=>[Oh b x nx [av,av]]):=by
 intro w z y;refine Ey func75 I y ?_;exact Y I<|A I<|Y I<|C 2 I<|N D6 I Jl I<|Lo LX 0 I<|U I (ER I PL I I)<|r I<|Sb 8 false I (I)<|C 2 I<|N D6 I Il I<|Lo PM 0 I<|U I xZ<|U I (Qz I) xj
def XcB (b x nx:Nat) (y:d0):Df prog 75 [BM b] Tr [Oh b y nx [BM x,av]] (λ_:Unit=>.bool true) Tr (λ_=>[Oh b y nx [BM x,av]]):=by
 intro w a z;refine Ey func75 I z ?_;exact Y I<|A I<|Y I<|C 2 I<|N D6 I Jl I<|Lo LX 0 I<|U I (ER I PL I I)<|r I<|Sb 8 true I (I)<|C 6 I xj
def XcC (b x nx:Nat) (y:d0):Df prog 75 [BM b] Tr [Oh b y nx [av,BM x]] (λ_:Unit=>.bool true) Tr (λ_=>[Oh b y nx [av,BM x]]):=by
 intro w a z;refine Ey func75 I z ?_;exact Y I<|A I<|Y I<|C 2 I<|N D6 I Jl I<|Lo LX 0 I<|U I (ER I PL I I)<|r I<|Sb 8 false I (I)<|C 2 I<|N D6 I Il I<|Lo PM 0 I<|U I xZ<|U I (Qz I) xj
def SM (b c nx:Nat) (x:d0) (ops:cv):Df prog 37 [BM b] Tr [Oh b x nx [av,av],AG x 43 Opn.enc ops] (λ_:Unit=>.bool<|decide (nx=ops.length)) Tr (λ_=>[Oh b x nx [av,av],AG x 43 Opn.enc ops]):=by
 intro w a z;refine Ey func37 I z ?_;exact Y I<|A I<|Ad<|LZ (rg 16) 41452401 (λy=>(Oh b x nx [av,av]).at y/\Ec y x Opn.enc ops) I St.drawn Xj<|Dm I<|MX I<|Bp (XbI b 0 nx x) I I I call75 I Tt<|λ_ _=>Ai Xj<|Md 4 I<|Ht D6 I Z3 I<|Dq I zU<|Md 2 I<|Ht D6 I UR I<|Dq I (Aj I XZ I uO I)<|Dq I (AM I TM I uS)<|KC I<|R I I (Qe I)<|KC I<|R I I (Qy I)<|KC I<|R I I uW<|AN<|Kt ZDv
def XiY (b y nx:Nat) (x:d0) (ops:cv):Df prog 37 [BM b] Tr [Oh b x nx [BM y,av],AG x 43 Opn.enc ops] (λ_:Unit=>.bool<|false) Tr (λ_=>[Oh b x nx [BM y,av],AG x 43 Opn.enc ops]):=by
 intro w c a;refine Ey func37 I a ?_;exact Y I<|A I<|Ad<|LZ (rg 16) 41452401 (λz=>(Oh b x nx [BM y,av]).at z/\Ec z x Opn.enc ops) I St.drawn Xj<|Dm I<|MX I<|Bp (XcB b y nx x) I I I call75 I Tt ZG2
def XiZ (b y nx:Nat) (x:d0) (ops:cv):Df prog 37 [BM b] Tr [Oh b x nx [av,BM y],AG x 43 Opn.enc ops] (λ_:Unit=>.bool<|false) Tr (λ_=>[Oh b x nx [av,BM y],AG x 43 Opn.enc ops]):=by
 intro w c a;refine Ey func37 I a ?_;exact Y I<|A I<|Ad<|LZ (rg 16) 41452401 (λz=>(Oh b x nx [av,BM y]).at z/\Ec z x Opn.enc ops) I St.drawn Xj<|Dm I<|MX I<|Bp (XcC b y nx x) I I I call75 I Tt ZG2
def HT (y e:Nat) (f d z j:d0) (sq pk:Int) (ev:List O1) (o:ev.length<=60000) (b nx:Nat) (q:nx<=1000) (t:Int) (x l k:d0) (a:Ans):Df prog 79 [BM y,aa t,BM b,.agg a.c.toArray] Tr [OZ y f e d z j sq pk,AG j 71 O1.enc ev,Oh b x nx [l,k]] (λv:d0=>.tuple #[]) Tr (λv=>[OZ y f e d z v sq pk,AG v 71 O1.enc<|ev++[⟨t,(nx:Int),true,a⟩],Oh b x (nx+1) [av,av]]):=by
 intro w s p;refine Ey func79 I p ?_;refine Y I<|Z I<|AT I I I I<|λn=>M a.c I<|Ns<|LZ (rg 17) 126482958 (λi=>(OZ y f e d z j sq pk).at i/\(Oh b x nx [l,k]).at i/\(Ac n 58 a.c).at i) I St.drawn (Hc 1 3 0 I)<|Md 3 I<|Ht Cz I ZV I<|Dq I (Aj I isAgg34 I uO I)<|Md 3 I<|Ht D6 I Z3 I<|Dq I (Aj I G3 I wV I)<|Dq I (AH a.c I isAgg58 sizeOf58 I (λ_ h=>h.2.2) (pZ<|by rw[pU,Ans.oQ];decide)<|Ans.oQ _)<|Dq I (AS (O1.c ⟨t,(nx:Int),true,a⟩) I I<|bev t (nx:Int) a)<|MX I<|As (sz:=22) [.tmp 19] I I I I I Wh sizeOf71 I zeroValue71 (by simp[Value.cells,O1.oQ])<|λA=>Ai (Hc 2 4 1 I)<|BP<|MX I<|Ap Wh Wh TK I (λ_ h=>AR kj O1.enc [(⟨t,(nx:Int),true,a⟩:O1)] I I) A8<|λm=>AD<|Ae<|Ai (Hc 2 3 1 I)<|ZG5 ?_
 rintro⟨u,r,g⟩;refine AQ<|KC I<|AB I I ZV I I Xh (rO I)<|M [f,BM e,d,z,m,am sq,aa pk] I<|AN<|Kt<|Y I<|C 3 I<|N D6 I Jl I<|BP<|Z I<|AB I I Jl I I I (rO I)<|M [x,aa (nx:Int),av,k] I<|Lc I<|N D6 I Il I<|Z I<|AB I I Il I I I (rO I)<|M [x,aa (nx:Int),av,av] I<|G<|Cr I<|C 2 I ?_;exact N D6 I Z3 I<|Lo G3 0 I<|U I (Qi I)<|Lc I<|N D6 I Z3 I<|Z I<|AB I I Z3 I I I (rO I)<|M [x,aa ((nx+1:Nat):Int),av,av] I<|AE<|AW<|Pm [3,1,1] I<|Ae<|Bl I<|λ_ h=>⟨m,rfl,T0,h⟩
def m0 (o:Opn):Ms:=⟨o.kind,0,VO o,Na 16,0,o.wk,by decide,by decide⟩
def Xi0 {o:Opn} (h:o.kind=1):Qo o=(m0 o).SL (XQ o):=Ms.ext' rfl rfl rfl (by show (if o.kind=1 then XQ o else Na 16)=XQ o;rw[pN h]) ZEs
def fI {o:Opn} (h:o.kind=3):Qo o=(m0 o).TA o.by' o.wb:=Ms.ext' rfl rfl rfl ZDR (by show (if o.kind=3 then o.by' else 0)=o.by';rw[pN h])
def Xkh {o:Opn} (h:o.val.size<=16):XQ o=XR o.val h:=by unfold XQ;rw[dif_pos h]
def nr (t:Int) (k:c3):Df prog 127 [aa t,.agg k.c.toArray] Tr [] (λx:Nat=>BM x) Tr (λx=>[Ot x (⟨t,k,1,0,0,false,false,ms0,false,Na 16,false⟩:Ie)]):=by
 intro w z y;refine E0 func127 I y ?_;exact Y I<|Z I<|AT I I I I<|λbk=>M k.c I<|A I<|Y I<|r I<|U I zw<|U I (AS (Ie.c (⟨t,k,1,0,0,false,false,ms0,false,Na 16,false⟩:Ie)) I I<|aq t k)<|Z I<|AT I I I I<|λx=>M (Ie.c (⟨t,k,1,0,0,false,false,ms0,false,Na 16,false⟩:Ie)) I<|A I<|s<|AD<|Ae<|Av I I<|λ_ h=>⟨x,rfl,T0,h⟩
def aR (t:Int) (m:Ms):Df prog 128 [aa t,.agg m.c.toArray] Tr [] (λx:Nat=>BM x) Tr (λx=>[Q9 x ⟨t,m,0,false,av,0⟩]):=by
 intro w z y;refine E0 func128 I y ?_;exact Y I<|Z I<|AT I I I I<|λa=>M m.c I<|A I<|Y I<|r I<|U I xT<|U I (AS (Wr.c ⟨t,m,0,false,av,0⟩) I I<|ao t m)<|Z I<|AT I I I I<|λx=>M (Wr.c ⟨t,m,0,false,av,0⟩) I<|A I<|s<|AD<|Ae zM
def IL (o:Opn):Bool:=!decide (o.key.size<=8)||(decide (o.kind=1)&&!decide (o.val.size<=16))
def Y0 (t:Int) (k:c3):Ie:=⟨t,k,1,0,0,false,false,ms0,false,Na 16,false⟩
def UA (t:Int) (nx:Nat) (o:Opn):Nat×List O1×(Nat->bi×ci) :=
 if IL o=true then (nx+1,[(⟨t,(nx:Int),false,Jn⟩:O1),(⟨t,(nx:Int),true,(⟨2,false,Na 16⟩:Ans)⟩:O1)],λ_=>([av,av],[]))
 else if o.kind=4 then (nx,[(⟨t,(nx:Int),false,Jn⟩:O1)],λb=>([BM b,av],[Ot b<|Y0 t<|VO o]))
 else (nx,[(⟨t,(nx:Int),false,Jn⟩:O1)],λb=>([av,BM b],[Q9 b ⟨t,Qo o,0,false,av,0⟩]))
def Xi1 {o:Opn} (h:o.kind=2):Qo o=m0 o:=Ms.ext' rfl rfl rfl ZDR ZEs
def Xda (o:Opn):Ms:=⟨o.kind,0,Na 8,Na 16,0,o.wk,by decide,by decide⟩
def kd3 (o:Opn) (h:o.kind=1\/o.kind=2\/o.kind=3\/o.kind=4):o.kind=1\/o.kind=3\/(o.kind≠1/\o.kind≠3):=by omega
def NF {nx:Nat} {o:Opn} (h:IL o):UA t nx o=(nx+1,[(⟨t,(nx:Int),false,Jn⟩:O1),(⟨t,(nx:Int),true,(⟨2,false,Na 16⟩:Ans)⟩:O1)],λ_=>([av,av],[])):=by unfold UA;rw[pN h]
def XcD {nx:Nat} {o:Opn} (h:IL o=false) (x:o.kind=4):UA t nx o=(nx,[(⟨t,(nx:Int),false,Jn⟩:O1)],λb=>([BM b,av],[Ot b<|Y0 t<|VO o])):=by unfold UA;rw[pQ wz,pN x]
def Xi2 {nx:Nat} {o:Opn} (h:IL o=false) (x:o.kind=1):UA t nx o=(nx,[(⟨t,(nx:Int),false,Jn⟩:O1)],λb=>([av,BM b],[Q9 b ⟨t,Qo o,0,false,av,0⟩])):=by unfold UA;rw[pQ wz,pQ Yn]
def fL {nx:Nat} {o:Opn} (h:IL o=false) (x:o.kind=2):UA t nx o=(nx,[(⟨t,(nx:Int),false,Jn⟩:O1)],λb=>([av,BM b],[Q9 b ⟨t,Qo o,0,false,av,0⟩])):=by unfold UA;rw[pQ wz,pQ Yn]
def Xi3 {nx:Nat} {o:Opn} (h:IL o=false) (x:o.kind=3):UA t nx o=(nx,[(⟨t,(nx:Int),false,Jn⟩:O1)],λb=>([av,BM b],[Q9 b ⟨t,Qo o,0,false,av,0⟩])):=by unfold UA;rw[pQ wz,pQ Yn]
def Xki (g k:Nat) (l j i u:d0) (sq pk:Int) (ev:List O1) (v:ev.length<=59999) (b nx:Nat) (e:nx<=1000) (t:Int) (a:d0) (ops:cv) {o:Opn} (q:ops[nx]?=some o) (D:ops.length<=1000) (p:o.key.size<=9223372036854775807) (x:o.kind=1\/o.kind=2\/o.kind=3\/o.kind=4):Df prog 81 [BM g,aa t,BM b] Tr [OZ g l k j i u sq pk,AG u 71 O1.enc ev,Oh b a nx [av,av],AG a 43 Opn.enc ops] (λr:d0×Nat=>.tuple #[]) Tr (λr=>[OZ g l k j i r.1 sq pk,AG r.1 71 O1.enc<|ev++(UA t nx o).2.1,Oh b a (UA t nx o).1 ((UA t nx o).2.2 r.2).1,AG a 43 Opn.enc ops]++((UA t nx o).2.2 r.2).2):=by
 intro w G A;have C:=(qp.1 q).1;refine Ey func81 I A ?_;refine Ad<|LZ (rg 16) 42160986 (λn=>(OZ g l k j i u sq pk).at n/\(Oh b a nx [av,av]).at n) I St.drawn Xm<|Md 3 I<|Ht Cz I ZV I<|Dq I (Aj I isAgg34 I uO I)<|Md 3 I<|Ht D6 I Z3 I<|Dq I (Aj I G3 I (λ_ h=>h.2) I)<|Dq I (AS (O1.c (⟨t,(nx:Int),false,Jn⟩:O1)) I I uX)<|MX I<|As (sz:=22) [.tmp 20] I I I I I Wh sizeOf71 I zeroValue71 (by simp[Value.cells,O1.oQ])<|λJ=>Ai (H2 1 3 I)<|AQ<|MX I<|Ap Wh Wh TK I (λ_ h=>AR kj O1.enc [(⟨t,(nx:Int),false,Jn⟩:O1)] I I) A8<|λf=>AD<|Ae<|Ai (H2 1 2 I)<|ZG5 ?_
 rintro⟨H,F,s⟩;refine AD<|KC I<|AB I I ZV I I (by rw[s];rfl) (rO I)<|M [l,BM k,j,i,f,am sq,aa pk] I<|AN<|Ks<|LZ (rg 12) 413343 (λn=>(Oh b a nx [av,av]).at n/\Ec n a Opn.enc ops) I St.drawn (Hb 2 3 I)<|Md 2 I<|Ht D6 I UR I<|Dq I (Aj I XZ I uO I)<|Md 2 I<|Ht D6 I Z3 I<|Dq I zU<|Dq I (Aw nx I TM U7 I (λ_ h=>h.2) I I)<|Dq I (Bc nx I ZP U7 I I (λ_ h=>h.2) q)<|MX I<|Ax I I I zeroValue43<|λE=>M [aa 0,.string ⟨#[]⟩,.string ⟨#[]⟩,am 0] I<|Ai (Hb 3 4 I)<|KC I<|AF I I U7 I I I (Opn.one o) bZ<|M (Opn.c o) (Sep.oR I)<|AN<|Kt<|Y I<|N Ru I Z9 I<|Lo isAgg9 0 I ?_
 by_cases hk8:o.key.size<=8
 .refine Z I (E1 (XbV o.key p) I call125 Tt<|λ_ _=>LH 38 (.tuple #[.agg (VO o).c.toArray,aa 0]) I (by first|(rw[dif_pos hk8];rfl)|(unfold VO;rw[dif_pos hk8,dif_pos hk8]))<|Mv 3 I<|Z I<|Ax I I I zeroValue77<|λbk=>M (Na 8).c I<|Z I<|AF I I MW I I Nw PU vZ<|M (VO o).c YL<|Ak I<|Y I<|N Ru I Z3 I<|Lo G3 1 I<|U I (Cq ((VO o).c) OO MW 0 I (Bq _) Nw)<|U I (AS (Ms.c<|m0 o) I I<|nq o.kind o.wk<|VO o)<|Z I<|Ax I I I zeroValue154<|λB=>M ms0.c I<|Z I<|AF I I Bi I I OM RZ wm<|M (Ms.c<|m0 o) wI<|Ns<|Y I<|N Ru I Z3 I<|Lo G3 2 I<|Mv 2 I ?_);rcases x with x|x|x|x
  .by_cases hv16:o.val.size<=16
   .refine Sb 48 true I HG (Mv 3 I<|Nk<|Sb 51 true I HG<|Am I<|Cr I<|N Ru I Z9 I<|Lo isAgg9 2 I<|Z I<|E1 (XiG o.val hv16) I call126 Tt<|λ_ _=>Lm I<|Mv 2 I<|N BR I O6 I<|Z I<|AF I I O6 I I Nw PU oJ<|Bb aK<|Ak I<|Ad<|Y I<|N Ru I Z3 I<|Lo G3 2 I<|U I (Qe I)<|Nk<|Sb 61 false I HG<|Ab I<|Ah<|Kt<|Af<|Y I<|Mv 2 I<|Ak I<|Sb 71 false I HG ?_);refine Ab I<|Y I<|N Ru I Z3 I<|Lo G3 2 I<|U I (Qe I)<|Ak I<|Sb 80 false I HG<|Ab I<|Cr I<|Mv 2 I<|U I (Cq (((m0 o).SL<|XR o.val hv16).c) Ck Bi 0 I (BF _) OM)<|Z I<|AX (aR t<|(m0 o).SL<|XR o.val hv16) I I I call128 I Tt<|λd _=>Lc I<|N D6 I Il I ?_
    rw[show ((m0 o).SL<|XR o.val hv16)=Qo o from by rw[Xi0 x,Xkh hv16]] ;exact C3<|Z I<|AB I I Il I I I (rO I)<|M [a,aa (nx:Int),av,BM d] I<|AE<|Au<|AW<|Pm [3,2,2,2,2,0,1] I<|Ae<|Ae<|Ae<|Bl I<|λ_ h=>⟨(f,d),rfl,T0,by rw[Xi2 (by unfold IL;rw[sT hk8,x];simp[hv16]) x];exact h⟩
   refine Sb 48 true I HG (Mv 3 I<|Nk<|Sb 51 true I HG<|Am I<|Cr I<|N Ru I Z9 I<|Lo isAgg9 2 I<|Z I<|E1 (ju o.val hv16) I call126 Tt<|λ_ _=>Lm I<|Mv 2 I<|N BR I O6 I<|Z I<|AF I I O6 I I Nw PU oJ<|Bb aK<|Ak I<|Ad<|Xec ?_);exact Am I<|Cr I<|Mv 4 I<|U I ZHA<|Pm [3,3,3] I<|Z I<|B5 yr I I I call79 I Tt<|λm _=>AE<|Au<|AW<|Pm [4,3,3] I<|Ae<|Ae<|Ae<|Bl I<|λ_ h=>⟨(m,0),rfl,T0,by rw[NF<|by unfold IL;rw[x,sS hv16];simp];rw[qQ] at h;exact h⟩
  .refine XdV ?_;refine Y I<|N Ru I Z3 I<|Lo G3 2 I<|U I (Qe I)<|Ak I<|Sb 80 false I HG<|Ab I<|Cr I<|Mv 2 I<|U I (Cq ((m0 o).c) Ck Bi 0 I (BF _) OM)<|Z I<|AX (aR t<|m0 o) I I I call128 I Tt<|λd _=>Lc I<|N D6 I Il I ?_
   rw[show (m0 o)=Qo o from by rw[Xi1 x]] ;exact C3<|Z I<|AB I I Il I I I (rO I)<|M [a,aa (nx:Int),av,BM d] I<|AE<|Au<|AW<|Pm [3,2,2,2,2,0,1] I<|Ae<|Ae<|Ae<|Bl I<|λ_ h=>⟨(f,d),rfl,T0,by rw[fL nM x];exact h⟩
  .refine Sb 48 false I HG (XdK ?_);refine Y I<|Mv 2 I<|Ak I<|Sb 71 false I HG<|Ab I<|Y I<|N Ru I Z3 I<|Lo G3 2 I<|U I (Qe I)<|Ak I<|Sb 80 false I HG<|Ab I<|Cr I<|Mv 2 I<|U I (Cq (((m0 o).TA o.by' o.wb).c) Ck Bi 0 I (BF _) OM)<|Z I<|AX (aR t<|(m0 o).TA o.by' o.wb) I I I call128 I Tt<|λd _=>Lc I<|N D6 I Il I ?_
   rw[show ((m0 o).TA o.by' o.wb)=Qo o from by rw[fI x]] ;exact C3<|Z I<|AB I I Il I I I (rO I)<|M [a,aa (nx:Int),av,BM d] I<|AE<|Au<|AW<|Pm [3,2,2,2,2,0,1] I<|Ae<|Ae<|Ae<|Bl I<|λ_ h=>⟨(f,d),rfl,T0,by rw[Xi3 nM x];exact h⟩
  refine XdV ?_;exact Y I<|N Ru I Z3 I<|Lo G3 2 I<|U I (Qe I)<|Ak I<|Sb 80 true I HG<|Am I<|Cr I<|Mv 2 I<|U I (Cq ((VO o).c) OO MW 1 I (Bq _) Nw)<|Z I<|AX (nr t<|VO o) I I I call127 I Tt<|λd _=>Lc I<|N D6 I Jl I<|C3<|Z I<|AB I I Jl I I I (rO I)<|M [a,aa (nx:Int),BM d,av] I<|AE<|Au<|AW<|Pm [3,2,2,2,2,0,1] I<|Ae<|Ae<|Ae<|Bl I<|λ_ h=>⟨(f,d),rfl,T0,by rw[XcD nM x];exact h⟩
 refine Z I (E1 (XbV o.key p) I call125 Tt<|λ_ _=>LH 38 (.tuple #[.agg (Na 8).c.toArray,aa 2]) I (by rw[dif_neg hk8];rfl)<|Mv 3 I<|Z I<|Ax I I I zeroValue77<|λbk=>M (Na 8).c I<|Z I<|AF I I MW I I Nw PU vZ<|M (Na 8).c YL<|Ak I<|Y I<|N Ru I Z3 I<|Lo G3 1 I<|U I (Cq ((Na 8).c) OO MW 0 I (Bq _) Nw)<|U I (AS (Ms.c<|Xda o) I I<|nq o.kind o.wk<|Na 8)<|Z I<|Ax I I I zeroValue154<|λB=>M ms0.c I<|Z I<|AF I I Bi I I OM RZ wm<|M (Ms.c<|Xda o) wI<|Ns<|Y I<|N Ru I Z3 I<|Lo G3 2 I<|Mv 2 I ?_);rcases kd3 o x with x|x|⟨y,z⟩
 .refine Sb 48 true I HG (Mv 3 I<|Nk<|Sb 51 false I HG<|Ab I<|Ah<|Ks<|Xec ?_);exact Am I eg
 .refine Sb 48 false I HG (XdK ?_);exact Y I<|Mv 2 I<|Ak I<|Sb 71 true I HG<|Am I eg
 refine Sb 48 false I HG (Mv 3 I<|Nk<|Ab I<|Ah<|Ks<|Y I<|N Ru I Z3 I<|Lo G3 2 I<|U I (Qe I)<|Nk<|Sb 61 false I HG<|Ab I<|Ah<|Kt<|Af<|Y I<|Mv 2 I<|Ak I<|Sb 71 true I HG<|Am I ?_);exact eg
def Xh5 {v:Wx} {b c:Nat} {w0 w:d7} {D:bm} {x z a y:Nr} {H:ci} (h:St w0 D (x::z::a::y::(v.H t m b c++H)) w):St w0 D (x::z::a::y::H) w :=
 h.sublist<|((((tX _ _).cons_cons _).cons_cons _).cons_cons _).cons_cons _
section
variable {P:d8} {n:Nat} {L:Env} {o:Oper} {Q:aB} {K:aO} {w0:d7} {D:bm}
def fN {v:β->d0} {p:β->Prop} (HA F:ci) {HB:β->ci} {f:FuncId} {xs:bx} {e:ca} {d:Nat} {vs:bi} (s:Df P f vs E HA v p HB) (g:o.op=.call ⟨.value<|.func f,xs.toArray,e⟩) (hd:o.dst=some d) (c:d.blt n)
 (z:∀us w,(callFunc f us).run P w=.ok (.enter f us) w) (a:evs L xs=some vs) (y:∀w,St w0 D (HA++F) w->E w) (h:∀b,p b->Pre n ((d,v b)::L) (St w0 D<|HB b++F) K):Nl P n L (St w0 D<|HA++F) o Q K :=
 DA g hd c z a (λw x=>s.frame (F:=F) x<|y w x) h
end
def Xh6 (b:Nat) (r:Ie):Df prog 78 [BM b] Tr [Ot b r] (λ_:Unit=>.tuple #[.agg r.v.c.toArray,.bool r.f]) Tr (λ_=>[Ot b r]):=by
 intro w z y;refine Ey func78 I y ?_;exact Y I<|Z I<|Ax I I I zeroValue56<|λa=>M (Na 16).c I<|A I<|Ad<|LZ (rg 10) 45927 (λx=>(Ot b r).at x) I St.drawn uq<|Md 2 I<|Ht BS I O6 I<|Dq I (AH ((Ie.v r).c) I Tz O6 I Ih (Ie.Xdy _) Nw)<|Md 2 I<|Ht BS I Z4 I<|Dq I (Aj I G4 I Ih<|Ie.XcN _)<|MX I<|AF I I O6 I I Nw PU vZ<|M (Kv.c<|Ie.v r) YL<|Ai uq<|KC I<|R I I uW<|AN<|Kt<|s<|C1 I xH (id I) oC
def crd (h:x.Ok B) (C:B+1<=60000) {t:Int} (ht:OJ t) (f l:Nat) (k g e:d0) (sq pk:Int) (ev:List O1) (p:ev.length<=60000) (b nx z F:Nat) (v:nx<=1000) (c:d0) (ops:cv) {N:Nat->Nd} {r i:Ie} (a:r.t=t) (d:x.hm.may t) (q:X5 N x.hm r) {m:Hm} (u:SH N x.hm r=(m,i,false)):Df prog 39 [BM f,aa t,BM b] Tr (OZ f (BM x.bh) l k g e sq pk::AG e 71 O1.enc ev::Oh b c nx [BM z,av]::AG c 43 Opn.enc ops::Ot z r::x.H) (λy:HQ=>.tuple #[]) (λy=>y.bh=x.bh/\y.Ok (B+1)/\y.hm=m) (λy=>OZ f (BM x.bh) l k g e sq pk::AG e 71 O1.enc ev::Oh b c (nx) [BM z,av]::AG c 43 Opn.enc ops::Ot z i::y.H):=by
 intro w G s;refine Ey func39 I s<|Af<|Y I<|Mv 2 I<|EJ D6 I Jl I<|Lo LX 2 I<|U I (ER I PL I I)<|Ak I<|Sb 15 true I (I)<|Am I<|Ad<|LZ (rg 9) 13122 (λn=>(OZ f (BM x.bh) l k g e sq pk).at n/\(Oh b c nx [BM z,av]).at n) I St.drawn Xm<|ZCA ?_;have o:=XbH h C z r (by rw[a];exact ht) (by rw[a];exact d) N q;rw[u] at o;refine Ee [_,_,_,_] o I call77 Tt ?_;rintro y ⟨j,A,E⟩;refine Pre.world (St _ _<|_::_::_::_::Ot z i::HQ.H y) Ih ?_;exact AN<|Kt<|Ab I<|Ah<|Au<|AW<|Bl I<|λ_ D=>⟨y,rfl,⟨j,A,E⟩,D⟩
def XlB (h:x.Ok B) (F:B+1<=60000) {t:Int} (ht:OJ t) (e m:Nat) (l j k:d0) (sq pk:Int) (ev:List O1) (n:ev.length<=60000) (b nx d L:Nat) (p:nx<=1000) (a:d0) (ops:cv) {N:Nat->Nd} {r z:Ie} (g:r.t=t) (i:x.hm.may t) (A:X5 N x.hm r) {q:Hm} (D:SH N x.hm r=(q,z,true)):Df prog 39 [BM e,aa t,BM b] Tr (OZ e (BM x.bh) m l j k sq pk::AG k 71 O1.enc ev::Oh b a nx [BM d,av]::AG a 43 Opn.enc ops::Ot d r::x.H) (λr:d0×HQ=>.tuple #[]) (λr=>r.2.bh=x.bh/\r.2.Ok (B+1)/\r.2.hm=q) (λr=>OZ e (BM x.bh) m l j r.1 sq pk::AG r.1 71 O1.enc (ev++[⟨t,(nx:Int),true,(⟨0,Ie.f z,Ie.v z⟩:Ans)⟩])::Oh b a (nx+1) [av,av]::AG a 43 Opn.enc ops::r.2.H):=by
 intro w M C;refine Ey func39 I C<|Af<|Y I<|Mv 2 I<|EJ D6 I Jl I<|Lo LX 2 I<|U I (ER I PL I I)<|Ak I<|Sb 15 true I (I)<|Am I<|Ad<|LZ (rg 9) 13122 (λs=>(OZ e (BM x.bh) m l j k sq pk).at s/\(Oh b a nx [BM d,av]).at s) I St.drawn Xm<|ZCA ?_;have u:=XbH h F d r (by rw[g];exact ht) (by rw[g];exact i) N A;rw[D] at u;refine Ee [_,_,_,_] u I call77 Tt ?_;rintro y ⟨o,E,K⟩;refine Pre.world (St _ _<|_::_::_::_::Ot d z::HQ.H y) Ih ?_;exact AN<|Kt<|Am I<|Y I<|Mv 2 I<|EJ D6 I Jl I<|Lo LX 2 I<|Cd<|Z I<|Bp (Xh6 d z) I I I call78 I Tt<|λ_ _=>Lm I<|Mv 2 I<|Z I<|Ax I I I zeroValue56<|λO=>Ce (Na 16).c I<|Z I<|AF I I O6 I I Nw PU vZ<|Ce (Kv.c<|Ie.v z) YL<|Ak I<|Cr I<|Mv 4 I<|U I (Cq ((Ie.v z).c) Tz O6 0 I (Bq _) Nw)<|U I (AS (Ans.c (⟨0,Ie.f z,Ie.v z⟩:Ans)) I I<|om (Ie.f z)<|Ie.v z)<|Pm [2,2,2] I<|Z I<|B5 (HT e m (BM x.bh) l j k sq pk ev n b nx p t a _ _ (⟨0,Ie.f z,Ie.v z⟩:Ans)) I I I call79 I Tt<|λG _=>AE<|Au<|AW<|Pm [3,3] I<|Ae<|Ae<|Bl I<|λ_ J=>⟨(G,y),rfl,⟨o,E,K⟩,J⟩
def cwr (h:x.Ok B) (K:B+1<=60000) {t:Int} (ht:OJ t) (f l:Nat) (k i e:d0) (sq pk:Int) (ev:List O1) (u:ev.length<=60000) (b nx z o:Nat) (C:nx<=1000) (c:d0) (ops:cv) {N:Nat->Nd} {m:Ms} {v g:Wx} {s:Hm} {p:Nat} (d:x.hm.may t) (F:WX x B N t m sq v g false s p) (n:decide (g.a=5)=false):Df prog 39 [BM f,aa t,BM b] Tr (OZ f (BM x.bh) l k i e sq pk::AG e 71 O1.enc ev::Oh b c nx [av,BM z]::AG c 43 Opn.enc ops::((Wx.H v t m z o)++x.H)) (λy:Nat×HQ=>.tuple #[]) (λy=>y.2.bh=x.bh/\y.2.Ok p/\y.2.hm=s) (λy=>OZ f (BM x.bh) l k i e sq pk::AG e 71 O1.enc ev::Oh b c (nx) [av,BM z]::AG c 43 Opn.enc ops::((Wx.H g t m z y.1)++y.2.H)):=by
 intro w J A;refine Ey func39 I A<|Af<|Y I<|Mv 2 I<|EJ D6 I Jl I<|Lo LX 2 I<|U I (ER I PL I I)<|Ak I<|Sb 15 false I (I)<|Ab I<|Y I<|Mv 2 I<|EJ D6 I Il I<|Lo PM 2 I<|U I (ER I Wz I I)<|Ak I<|Sb 45 true I (I)<|Am I<|Ad<|LZ (rg 20) 2325054375 (λq=>(OZ f (BM x.bh) l k i e sq pk).at q/\(Oh b c nx [av,BM z]).at q) I St.drawn Xm<|Md 2 I<|Ht D6 I Il I ?_;refine wu ?_;have r:=Un h ht d z o N m sq F;rw[n] at r;refine Ee [_,_,_,_] r I call80 Tt ?_;rintro y ⟨j,D,G⟩;refine Pre.world (St _ _<|_::_::_::_::((Wx.H g t m z y.1)++HQ.H y.2)) Ih ?_;refine Ai Xm<|Md 6 I<|KC I<|R I I uW<|AN<|Ks<|Y I<|Lm I<|Nk<|Ab I<|Ah<|Kt<|Y I<|Lm I<|Nk<|Ab I<|Ah<|Au<|AW ?_;exact Bl I<|λ_ E=>⟨y,rfl,⟨j,D,G⟩,E⟩
def ov (h:x.Ok B) (P:B+1<=60000) {t:Int} (ht:OJ t) (f n:Nat) (l j k:d0) (sq pk:Int) (ev:List O1) (o:ev.length<=60000) (b nx i u:Nat) (q:nx<=1000) (z:d0) (ops:cv) {N:Nat->Nd} {m:Ms} {v d:Wx} {E:Hm} {A:Nat} (g:x.hm.may t) (L:WX x B N t m sq v d false E A) (s:decide (d.a=5)):Df prog 39 [BM f,aa t,BM b] Tr (OZ f (BM x.bh) n l j k sq pk::AG k 71 O1.enc ev::Oh b z nx [av,BM i]::AG z 43 Opn.enc ops::((Wx.H v t m i u)++x.H)) (λr:d0×HQ=>.tuple #[]) (λr=>r.2.bh=x.bh/\r.2.Ok A/\r.2.hm=E) (λr=>OZ f (BM x.bh) n l j r.1 sq pk::AG r.1 71 O1.enc (ev++[⟨t,(nx:Int),true,(⟨d.e,false,Na 16⟩:Ans)⟩])::Oh b z (nx+1) [av,av]::AG z 43 Opn.enc ops::r.2.H):=by
 intro w O G;refine Ey func39 I G<|Af<|Y I<|Mv 2 I<|EJ D6 I Jl I<|Lo LX 2 I<|U I (ER I PL I I)<|Ak I<|Sb 15 false I (I)<|Ab I<|Y I<|Mv 2 I<|EJ D6 I Il I<|Lo PM 2 I<|U I (ER I Wz I I)<|Ak I<|Sb 45 true I (I)<|Am I<|Ad<|LZ (rg 20) 2325054375 (λC=>(OZ f (BM x.bh) n l j k sq pk).at C/\(Oh b z nx [av,BM i]).at C) I St.drawn Xm<|Md 2 I<|Ht D6 I Il I ?_;refine wu ?_;have D:=Un h ht g i u N m sq L;rw[s] at D;refine Ee [_,_,_,_] D I call80 Tt ?_;rintro y ⟨p,J,M⟩;refine Pre.world (St _ _<|_::_::_::_::((Wx.H d t m i y.1)++HQ.H y.2)) Ih ?_;refine Ai Xm<|Md 6 I<|KC I<|R I I uW<|AN<|Ks<|Y I<|Lm I<|Nk<|Ab I<|Ah<|Kt<|Y I<|Lm I<|Nk<|Am I<|Cr I<|Mv 2 I ?_;exact Mv 2 I<|U I ZGh<|Z I<|B5 (HT f n (BM x.bh) l j k sq pk ev o b nx q t z _ _ (⟨d.e,false,Na 16⟩:Ans)) I I I call79 I Tt ZDA
def nt (h:x.Ok B) (P:B+1<=60000) {t:Int} (ht:OJ t) (f l:Nat) (k g j:d0) (sq pk:Int) (ev:List O1) (o:ev.length<=60000) (b nx n u:Nat) (q:nx<=1000) (z:d0) (ops:cv) {N:Nat->Nd} {m:Ms} {v d:Wx} {E:Hm} {A:Nat} (i:x.hm.may t) (L:WX x B N t m sq v d true E A) (s:decide (d.a=5)):Df prog 39 [BM f,aa t,BM b] Tr (OZ f (BM x.bh) l k g j sq pk::AG j 71 O1.enc ev::Oh b z nx [av,BM n]::AG z 43 Opn.enc ops::((Wx.H v t m n u)++x.H)) (λr:d0×HQ=>.tuple #[]) (λr=>r.2.bh=x.bh/\r.2.Ok A/\r.2.hm=E) (λr=>OZ f (BM x.bh) l k g r.1 (IntKind.u64.wrap<|sq+1) pk::AG r.1 71 O1.enc (ev++[⟨t,(nx:Int),true,(⟨d.e,false,Na 16⟩:Ans)⟩])::Oh b z (nx+1) [av,av]::AG z 43 Opn.enc ops::r.2.H):=by
 intro w O G;refine Ey func39 I G<|Af<|Y I<|Mv 2 I<|EJ D6 I Jl I<|Lo LX 2 I<|U I (ER I PL I I)<|Ak I<|Sb 15 false I (I)<|Ab I<|Y I<|Mv 2 I<|EJ D6 I Il I<|Lo PM 2 I<|U I (ER I Wz I I)<|Ak I<|Sb 45 true I (I)<|Am I<|Ad<|LZ (rg 20) 2325054375 (λC=>(OZ f (BM x.bh) l k g j sq pk).at C/\(Oh b z nx [av,BM n]).at C) I St.drawn Xm<|Md 2 I<|Ht D6 I Il I ?_;refine wu ?_;have D:=Un h ht i n u N m sq L;rw[s] at D;refine Ee [_,_,_,_] D I call80 Tt ?_;rintro y ⟨p,J,M⟩;refine Pre.world (St _ _<|_::_::_::_::((Wx.H d t m n y.1)++HQ.H y.2)) Ih ?_;refine Ai Xm<|Md 6 I<|KC I<|R I I uW<|AN<|Ks<|Y I<|Lm I<|Nk<|Am I<|Cr I<|Mv 2 I<|EJ Cz I Qb I<|Lo Xa 0 I<|U I (Yx I I I)<|Lc I<|EJ Cz I Qb I<|Z I ?_;exact AB I I Qb I I I (rO I)<|Ce [BM x.bh,BM l,k,g,j,am<|IntKind.u64.wrap<|sq+1,aa pk] I<|Nk<|Y I<|Lm I<|Nk<|Am I<|Cr I<|Mv 4 I<|U I ZGh<|Z I<|B5 (HT f l (BM x.bh) k g j (IntKind.u64.wrap<|sq+1) pk ev o b nx q t z _ _ (⟨d.e,false,Na 16⟩:Ans)) I I I call79 I Tt ZDA
def ox (y i:Nat) (g z f:d0) (sq pk:Int) (ev:List O1) (a:ev.length<=59999) (b nx:Nat) (d:nx<=1000) (h:d0) (ops:cv) (t:Int) {o:Opn} (j:ops[nx]?=some o) (k:ops.length<=1000) (e:o.key.size<=9223372036854775807) (c:o.kind=1\/o.kind=2\/o.kind=3\/o.kind=4):Df prog 39 [BM y,aa t,BM b] Tr (OZ y (BM x.bh) i g z f sq pk::AG f 71 O1.enc ev::Oh b h nx [av,av]::AG h 43 Opn.enc ops::x.H) (λr:d0×Nat=>.tuple #[]) Tr (λr=>OZ y (BM x.bh) i g z r.1 sq pk::AG r.1 71 O1.enc (ev++(UA t nx o).2.1)::Oh b h (UA t nx o).1 (((UA t nx o).2.2 r.2).1)::AG h 43 Opn.enc ops::(((UA t nx o).2.2 r.2).2++x.H)):=by
 intro w n m;refine Ey func39 I m<|Af<|Y I<|C 2 I<|N D6 I Jl I<|Lo LX 2 I<|U I (ER I PL I I)<|A I<|Sb 15 false I (I)<|Ab I<|Y I<|C 2 I<|N D6 I Il I<|Lo PM 2 I<|U I (ER I Wz I I)<|A I<|Sb 45 false I (I)<|Ab I<|Cr I<|C 3 I<|Z I ?_;exact fN [_,_,_,_] (HQ.H x) (Xki y i (BM x.bh) g z f sq pk ev a b nx d t h ops j k e c) I I I call81 I Tt<|λr _=>AE<|Au<|AW<|Bl I<|λ_ l=>⟨r,rfl,T0,by rw[qQ] at l;exact l⟩
abbrev Ox (b:Bool) (sq:Int):Int:=if b=true then IntKind.u64.wrap (sq+1) else sq
def XcU {c:Cl} (h:c.nx<c.ops.length):c.ops[c.nx]?=some c.op:=by
 unfold Cl.op;rw[sY,pE h];rfl
def Ms.num (m:Ms) (s:Int):Ms:=if h:(Lit.int .u64 s).wf=true then m.oT s h else m
def Ms.Xlk (m:Ms) {s:Int} (h:(Lit.int .u64 s).wf):m.num s=m.oT s h:=by unfold Ms.num;rw[dif_pos h]
def Ch (N:Nat->Nd) (t sq:Int) (L:Hm) (c:Cl):Hm×Cl×Bool×List O1:=match c.ph with
 |.idle=>if IL c.op=true then (L,c.done,false,[yT t c,yU t c ⟨2,false,Na 16⟩]) else (L,{c with ph:=if c.op.kind=4 then .rd (Y0 t<|VO c.op) else .wr ⟨0,false,none,0⟩},false,[yT t c])
 |.rd r=>if (SH N L r).2.2=true then ((SH N L r).1,c.done,false,[yU t c ⟨0,(SH N L r).2.1.f,(SH N L r).2.1.v⟩]) else ((SH N L r).1,{c with ph:=.rd (SH N L r).2.1},false,[])
 |.wr v=>if (VB N t L ((Qo c.op).num sq) v).2.1.a=5 then ((VB N t L ((Qo c.op).num sq) v).1,c.done,(VB N t L ((Qo c.op).num sq) v).2.2,[yU t c ⟨(VB N t L ((Qo c.op).num sq) v).2.1.e,false,Na 16⟩]) else ((VB N t L ((Qo c.op).num sq) v).1,{c with ph:=.wr (VB N t L ((Qo c.op).num sq) v).2.1},false,[])
def Uo (N:Nat->Nd) (t sq:Int) (L:Hm) (c:Cl):Prop:=match c.ph with
 |.idle=>c.nx<c.ops.length/\c.op.key.size<=9223372036854775807/\(c.op.kind=1\/c.op.kind=2\/c.op.kind=3\/c.op.kind=4)
 |.rd r=>r.t=t/\X5 N L r
 |.wr v=>bF N t L ((Qo c.op).num sq) v
def WX.inn {sq:Int} {N:Nat->Nd} {v y:Wx} {inn:Bool} {z:Hm} {b:Nat} (h:WX x B N t m sq v y inn z b) (c:y.a≠5):inn=false:=by
 cases h<;>first|rfl|exact absurd rfl c
def Xe3 (N:Nat->Nd) (h:x.Ok B) (w:B+1<=60000) {t:Int} (ht:OJ t) (n u:Nat) (s o l:d0) (sq pk:Int) (ev:List O1) (K:ev.length<=59999) (A:(Lit.int .u64 sq).wf) (c:CC) (Q:c.m.ops.length<=1000) (f:c.m.nx<=1000)
 (p:c.m.ph.Xx=false->x.hm.may t=true) (j:Uo N t sq x.hm c.m):Df prog 39 [BM n,aa t,BM c.b] Tr (OZ n (BM x.bh) u s o l sq pk::AG l 71 O1.enc ev::(c.H t++x.H)) (λ_:d0×CC×HQ=>.tuple #[])
 (λr=>r.2.1.b=c.b/\r.2.1.m=(Ch N t sq x.hm c.m).2.1/\r.2.2.bh=x.bh/\r.2.2.Ok (B+1)/\r.2.2.hm=(Ch N t sq x.hm c.m).1)
 (λr=>OZ n (BM x.bh) u s o r.1 (Ox (Ch N t sq x.hm c.m).2.2.1 sq) pk::AG r.1 71 O1.enc (ev++(Ch N t sq x.hm c.m).2.2.2)::(r.2.1.H t++r.2.2.H)):=by
 obtain⟨b,e,i,g,⟨ops,nx,ph⟩⟩:=c;have d:ev.length<=60000:=A1;cases ph with
 |idle =>
  obtain⟨V,L,W⟩:=j;have P:=XcU V;have D:=h.mono (tC B) w;have E:=ox (x:=x) n u s o l sq pk ev K b nx f e ops t P Q L W;unfold Ch;dsimp only;by_cases hT:IL (Cl.op ⟨ops,nx,.idle⟩)=true
  .rw[pN hT];rw[NF hT] at E;exact Df.conv E I (λr:d0×Nat=>(r.1,(⟨b,e,i,g,⟨ops,nx+1,.idle⟩⟩:CC),x)) mV
  rw[pQ hT];have O:=rM.2 hT;by_cases h4:(Cl.op ⟨ops,nx,.idle⟩).kind=4
  .rw[pN h4];rw[XcD O h4] at E;exact Df.conv E I (λr:d0×Nat=>(r.1,(⟨b,e,r.2,g,⟨ops,nx,.rd<|Y0 t<|VO<|Cl.op ⟨ops,nx,.idle⟩⟩⟩:CC),x)) mV
  rw[pQ h4]
  have M:UA t nx (Cl.op ⟨ops,nx,.idle⟩)=(nx,[⟨t,(nx:Int),false,Jn⟩],λb=>([av,BM b],[Q9 b ⟨t,Qo<|Cl.op ⟨ops,nx,.idle⟩,0,false,av,0⟩])):=by
   unfold UA;rw[pQ hT,pQ h4]
  rw[M] at E;exact Df.conv E I (λr:d0×Nat=>(r.1,(⟨b,e,r.2,g,⟨ops,nx,.wr ⟨0,false,none,0⟩⟩⟩:CC),x)) mV
 |rd r =>
  obtain⟨J,G⟩:=j;have hm:=p rfl;unfold Ch;dsimp only;cases hq:SH N x.hm r with
  |mk L2 q =>
   obtain⟨U,X⟩:=q;cases X
   .rw[pQ<|show ¬(false=true) from Bool.false_ne_true];exact Df.conv (crd h w ht n u s o l sq pk ev d b nx i g f e ops J hm G hq) I (λy:HQ=>(l,(⟨b,e,i,g,⟨ops,nx,.rd U⟩⟩:CC),y))<|λy z=>⟨⟨rfl,rfl,z.1,z.2.1,z.2.2⟩,by rw[sG];rfl⟩
   rw[pN rfl];exact Df.conv (XlB h w ht n u s o l sq pk ev d b nx i g f e ops J hm G hq) I (λy:d0×HQ=>(y.1,(⟨b,e,i,g,⟨ops,nx+1,.idle⟩⟩:CC),y.2)) (λy z=>⟨⟨rfl,rfl,z.1,z.2.1,z.2.2⟩,rfl⟩)
 |wr v =>
  have hm:=p rfl;have G:bF N t x.hm ((Qo<|Cl.op ⟨ops,nx,.wr v⟩).num sq) v:=j;unfold Ch;dsimp only;rw[Ms.Xlk _ A] at G ⊢;obtain⟨T,R,_,F⟩:=Xkg w A G;cases hq:VB N t x.hm ((Qo<|Cl.op ⟨ops,nx,.wr v⟩).oT sq A) v with
  |mk L2 q =>
   obtain⟨S,inn⟩:=q;rw[hq] at F;have C:∀{y:HQ},y.Ok T->y.Ok (B+1):=λk=>k.mono R w
   dsimp only at F ⊢;by_cases h5:S.a=5
   .rw[pN h5];cases inn
    .exact Df.conv (ov h w ht n u s o l sq pk ev d b nx i g f e ops hm F<|sT h5) I (λy:d0×HQ=>(y.1,(⟨b,e,i,g,⟨ops,nx+1,.idle⟩⟩:CC),y.2))<|λy z=>⟨⟨rfl,rfl,z.1,C z.2.1,z.2.2⟩,rfl⟩
    exact Df.conv (nt h w ht n u s o l sq pk ev d b nx i g f e ops hm F<|sT h5) I (λy:d0×HQ=>(y.1,(⟨b,e,i,g,⟨ops,nx+1,.idle⟩⟩:CC),y.2))<|λy z=>⟨⟨rfl,rfl,z.1,C z.2.1,z.2.2⟩,rfl⟩
   rw[pQ h5];have hi:=F.inn h5;subst hi;exact Df.conv (cwr h w ht n u s o l sq pk ev d b nx i g f e ops hm F<|sS h5) I (λy:Nat×HQ=>(l,(⟨b,e,i,y.1,⟨ops,nx,.wr S⟩⟩:CC),y.2))<|λy z=>⟨⟨rfl,rfl,z.1,C z.2.1,z.2.2⟩,by rw[sG];rfl⟩
end Go.Proofs.YtloldofjddbjoaaGreat
namespace Go.Proofs.YtloldofjddbjoaaGreat.Sc
open Go.Sep Go.RowKit Tryz
variable {k off n x:Nat} {l:bf}
structure Tab where
 n:Nat
 st:bf
 wt:bf
 pk:bf
 worst:Int
structure Tab.Ok (m:Tab) (c:Int):Prop where
 n1:1<=m.n
 n8:m.n<=8
 st:m.st.length=m.n
 wt:m.wt.length=m.n
 pk:m.pk.length=m.n
 Tj:∀k,k<m.n->0<=m.wt.getD k 0/\m.wt.getD k 0<=c
 XM:∀k,k<m.n->0<=m.pk.getD k 0/\m.pk.getD k 0<=c
 w0:0<=m.worst/\m.worst<=c
def Tab.Ok.mono {m:Tab} {c d:Int} (h:m.Ok c) (hd:c<=d):m.Ok d:=⟨h.n1,h.n8,h.st,h.wt,h.pk,λk x=>⟨(h.Tj k x).1,tB (h.Tj k x).2 hd⟩,λk x=>⟨(h.XM k x).1,tB (h.XM k x).2 hd⟩,h.w0.1,tB h.w0.2 hd⟩
def K4 (l:bf):bi:=l.map<|Value.int .i64
def JP (l:bf):bf:=l++List.replicate (8-l.length) 0
def NG (h:l.length<=8):(JP l).length=8:=by simp[JP];omega
def NH (h:k<l.length):(JP l)[k]?=some (l.getD k 0):=by
 simp[JP,pL h,sY,h]
def NI (h:k<l.length) (x:Int):(JP l).set k x=JP (l.set k x):=by
 simp[JP,sB _ _ h]
def o4 (m:Tab):bi:=[aa m.n]++(K4 (JP m.st)++(K4 (JP m.wt)++(K4 (JP m.pk)++[aa m.worst])))
def NJ (l:bf):(K4 l).length=l.length:=by simp[K4]
def NL (l:bf) (k:Nat):(K4 l)[k]?=(l[k]?).map (Value.int .i64):=by simp[K4]
def NM (l:bf) (k:Nat) (x:Int):(K4 l).set k (aa x)=K4 (l.set k x):=by simp[K4,rH]
section
variable {m:Tab} {c:Int} (h:m.Ok c)
include h
def Tab.Ok.l1:(K4<|JP m.st).length=8:=by rw[NJ,NG<|by rw[h.st];exact h.n8]
def Tab.Ok.l2:(K4<|JP m.wt).length=8:=by rw[NJ,NG<|by rw[h.wt];exact h.n8]
def Tab.Ok.l3:(K4<|JP m.pk).length=8:=by rw[NJ,NG<|by rw[h.pk];exact h.n8]
def I8:(o4 m).length=26:=by simp[o4,h.l1,h.l2,h.l3]
def XcE (x:k<m.n) (y:off=1+k):(o4 m)[off]?=some (aa<|m.st.getD k 0):=by
 have z:=h.n8;have l1:=h.l1;subst y;rw[o4,pO j,pL gg];simp only[s5,tT];rw[NL,NH<|by rw[h.st];exact x];rfl
def XcF (x:k<m.n) (y:off=9+k):(o4 m)[off]?=some (aa<|m.wt.getD k 0):=by
 have z:=h.n8;have l1:=h.l1;have l2:=h.l2;subst y;rw[o4,pO gg,pO gg,pL gg];rw[l1,s5,show 9+k-1-8=k from by omega,NL,NH<|by rw[h.wt];exact x];rfl
def Xkj (x:k<m.n) (y:off=17+k):(o4 m)[off]?=some (aa<|m.pk.getD k 0):=by
 have z:=h.n8;have l1:=h.l1;have l2:=h.l2;have l3:=h.l3;subst y;rw[o4,pO gg,pO gg,pO gg,pL gg];rw[l1,l2,s5,show 17+k-1-8-8=k from by omega,NL,NH<|by rw[h.pk];exact x];rfl
def Xgs (x:off=25):(o4 m)[off]?=some (aa m.worst):=by
 have l1:=h.l1;have l2:=h.l2;have l3:=h.l3;subst x;rw[o4,pO j,pO gg,pO gg,pO gg];rw[l1,l2,l3];rfl
def Xkk (x:Int) (y:k<m.n) (z:off=1+k):(o4 m).set off (aa x)=o4 {m with st:=m.st.set k x}:=by
 have a:=h.n8;have l1:=h.l1;subst z;unfold o4;rw[rJ _ _ j,sB _ _ gg];simp only[s5,tT,NM];rw[NI<|by rw[h.st];exact y]
def Up (x:Int) (y:k<m.n) (z:off=9+k):(o4 m).set off (aa x)=o4 {m with wt:=m.wt.set k x}:=by
 have a:=h.n8;have l1:=h.l1;have l2:=h.l2;subst z;unfold o4;rw[rJ _ _ gg,rJ _ _ gg,sB _ _ gg];rw[l1,s5,show 9+k-1-8=k from by omega,NM,NI<|by rw[h.wt];exact y]
def Xkl (x:Int) (y:k<m.n) (z:off=17+k):(o4 m).set off (aa x)=o4 {m with pk:=m.pk.set k x}:=by
 have a:=h.n8;have l1:=h.l1;have l2:=h.l2;have l3:=h.l3;subst z;unfold o4;rw[rJ _ _ gg,rJ _ _ gg,rJ _ _ gg,sB _ _ gg];rw[l1,l2,s5,show 17+k-1-8-8=k from by omega,NM,NI<|by rw[h.pk];exact y]
def Xgt (x:Int) (y:off=25):(o4 m).set off (aa x)=o4 {m with worst:=x}:=by
 have l1:=h.l1;have l2:=h.l2;have l3:=h.l3;subst y;unfold o4;rw[rJ _ _ j,rJ _ _ gg,rJ _ _ gg,rJ _ _ gg];rw[l1,l2,l3];rfl
end
def o5 (m:Tab) (i s:Int):Tab:=if 0<=i/\i<m.n/\m.st.getD i.toNat 0≠2 then {m with st:=m.st.set i.toNat s,wt:=if s=0 then m.wt else m.wt.set i.toNat 0} else m
def ZF {j:Nat} {x:Int}:(l.set k x).getD j 0=if k=j/\k<l.length then x else l.getD j 0:=by
 simp only[sY,tb];by_cases hk:k=j
 .subst hk;by_cases hl:k<l.length<;>simp[hl]
 simp[hk]
def XlM {m:Tab} {c:Int} (h:m.Ok c) (i s:Int):(o5 m i s).Ok c:=by
 unfold o5;split
 .rename_i hi;refine⟨h.n1,h.n8,by simp[h.st],by split<;>simp[h.wt],h.pk,λk x=>?_,h.XM,h.w0⟩;have:=h.Tj k x;simp only;split
  .exact this
  rw[ZF];split
  .have:=h.w0;omega
  exact this
 exact h
def XlL (m:Tab) (i s:Int):(o5 m i s).n=m.n:=by unfold o5;split<;>rfl
def oZ (m:Tab):bm:=(List.range m.n).filter<|λk=>decide (m.st.getD k 0=0)
def UK (l:bm):bf:=l.map (λk:Nat=>(k:Int))
def Jt (m:Tab) (k:Nat):bf:=UK<|(List.range k).filter<|λj=>decide (m.st.getD j 0=0)
def Xi4 (m:Tab):Jt m m.n=UK (oZ m):=rfl
def Xgu {m:Tab} {k:Nat} (h:m.st.getD k 0=0):Jt m k++[(k:Int)]=Jt m (k+1):=by
 simp only[Jt,tp,tq,UK,qR,tH,List.filter_nil,h,decide_true,qX,qG,qH]
def bj {m:Tab} (h:¬m.st.getD k 0=0):Jt m k=Jt m (k+1):=by
 simp only[Jt,tp,tq,UK,qR,tH,List.filter_nil,h,decide_false,r5,r9,qH,sG]
def XN (m:Tab) (k:Nat):(Jt m k).length<=k:=by
 simp only[Jt,UK,qY];exact qM (tm _ _) j
def I9 {m:Tab} (h:k∈oZ m):k<m.n:=by simp[oZ] at h;exact h.1
def SO (m:Tab):(oZ m).length<=m.n:=qM (tm _ _) j
def Xaq {l:bm} {x:Nat} (h:l[k]?=some x):(UK l)[k]?=some (x:Int):=by simp[UK,h]
def Xgv (l:bm):(UK l).length=l.length:=by simp[UK]
def FO (told:Nat) (m:Tab) (x:Nat):Tab:=if x=told then m else {m with wt:=m.wt.set x<|m.wt.getD x 0+1,worst:=if m.wt.getD x 0+1>m.worst then m.wt.getD x 0+1 else m.worst}
def XbJ {m:Tab} {c:Int} (h:m.Ok c) {x:Nat} (hx:x<m.n) (told:Nat):(FO told m x).Ok (c+1):=by
 unfold FO;split
 .exact h.mono J
 have a:=h.Tj x hx;have z:=h.w0;refine⟨h.n1,h.n8,h.st,by simp[h.wt],h.pk,λk y=>?_,λk y=>?_,?_⟩
 .have:=h.Tj k y;simp only[ZF];split<;>omega
 .have:=h.XM k y;simp only;omega
 simp only;split<;>omega
def bu (told:Nat) (m:Tab) (x:Nat):(FO told m x).n=m.n:=by unfold FO;split<;>rfl
def Xi5 (told:Nat) (m:Tab) (x:Nat):(FO told m x).st=m.st:=by unfold FO;split<;>rfl
def Xi6 (told:Nat) (m:Tab) (x:Nat):(FO told m x).pk=m.pk:=by unfold FO;split<;>rfl
def Vg (told:Nat) (m:Tab) (l:bm):Tab:=l.foldl (FO told) m
def Kl (told:Nat):∀(l:bm) (m:Tab),(Vg told m l).n=m.n
 |[],m=>rfl
 |x::l,m=>(Kl told l<|FO told m x).trans<|bu told m x
def Xdq (told:Nat):∀(l:bm) (m:Tab),(Vg told m l).st=m.st
 |[],m=>rfl
 |x::l,m=>(Xdq told l<|FO told m x).trans<|Xi5 told m x
def bB (told:Nat):∀(l:bm) (m:Tab),(Vg told m l).pk=m.pk
 |[],m=>rfl
 |x::l,m=>(bB told l<|FO told m x).trans<|Xi6 told m x
def Km (told:Nat):∀(l:bm) {m:Tab} {c:Int},m.Ok c->(∀x∈l,x<m.n)->(Vg told m l).Ok (c+l.length)
 |[],m,c,h,hl=>by simpa [Vg] using h
 |x::l,m,c,h,hl=>by
  have z:=XbJ h (hl x<|rW ..) told
  have:=Km told l z<|λy a=>by rw[bu];exact hl y<|sr _ a
  exact this.mono gg
def Uq (told:Nat) (m:Tab) (l:bm) (x:Nat):Vg told m (l++[x])=FO told (Vg told m l) x:=by simp[Vg]
def XfD {l:bm} {i:Nat} (h:l[i]?=some x):l.take (i+1)=l.take i++[x]:=by
 have:=(qp.1 h);rw[rK this.1,this.2]
def Kn (m:Tab) (told:Nat):Tab:={m with wt:=m.wt.set told 0,pk:=m.pk.set told<|m.pk.getD told 0+1}
def fR {m:Tab} {c:Int} (h:m.Ok c) {told:Nat} (ht:told<m.n):(Kn m told).Ok (c+1):=by
 have y:=h.w0;have z:=h.XM told ht;refine⟨h.n1,h.n8,h.st,by simp[Kn,h.wt],by simp[Kn,h.pk],λk x=>?_,λk x=>?_,by simp only[Kn];omega⟩
 .have:=h.Tj k x;simp only[Kn,ZF];split<;>omega
 have:=h.XM k x;simp only[Kn,ZF];split<;>omega
def Og (m:Tab) (p:Int):Nat:=(oZ m).getD (p%((oZ m).length:Int)).toNat 0
def oW (m:Tab) (p:Int):Tab:=if oZ m=[] then m else Kn (Vg (Og m p) m<|oZ m) (Og m p)
def Us {m:Tab} (p:Int) (h:oZ m≠[]):(p%((oZ m).length:Int)).toNat<(oZ m).length:=by
 have y:0<(oZ m).length:=sM.2 h;have x:=Int.emod_nonneg p<|show ((oZ m).length:Int)≠0 by omega
 have z:=Int.emod_lt_of_pos p<|show 0<((oZ m).length:Int) by omega
 omega
def XbK {m:Tab} (p:Int) (h:oZ m≠[]):(oZ m)[(p%((oZ m).length:Int)).toNat]?=some (Og m p):=by
 have:=Us p h;simp[Og,sY,this]
def lJ {m:Tab} (p:Int) (h:oZ m≠[]):Og m p∈oZ m:=ry<|XbK p h
def XlD {m:Tab} {c:Int} (h:m.Ok c) (p:Int):(oW m p).Ok (c+9):=by
 unfold oW;split
 .exact h.mono J
 rename_i hr;have y:=Km (Og m p) (oZ m) h<|λx hx=>I9 hx
 have z:=fR y (told:=Og m p)<|by rw[Kl];exact I9<|lJ p hr
 have a:=SO m;have b:=h.n8;exact z.mono J
def zV (m:Tab) (p:Int):(oW m p).n=m.n:=by
 unfold oW;split
 .rfl
 exact Kl _ _ _
def Xgw {p:Int} {n:Int} (y:0<n):(p.tmod n+n)%n=p%n:=by
 rw[Int.add_emod_right];by_cases h:0<=p
 .rw[Int.tmod_eq_emod_of_nonneg h,Int.emod_emod_of_dvd _<|Int.dvd_refl _]
 have x:=Int.mul_tdiv_add_tmod p n;rw[show p.tmod n=p+n*(-(p.tdiv n)) from by rw[Int.mul_neg];omega,Int.add_mul_emod_self_left]
section
variable {m:Tab} {t k i x:Nat} (ht:(oZ m)[k]?=some t) (hx:(oZ m)[i]?=some x)
include ht hx
end
def WE (n:Nat):Tab:=⟨n,List.replicate n 0,List.replicate n 0,List.replicate n 0,0⟩
def fJ (x:1<=n) (y:n<=8):(WE n).Ok 0:=by
 have h:∀k,(List.replicate n (0:Int)).getD k 0=0:=λk=>by
  simp only[sY,ru];split<;>rfl
 exact⟨x,y,by simp[WE],by simp[WE],by simp[WE],λk _=>by simp only[WE];rw[h];omega,λk _=>by simp only[WE];rw[h];omega,by simp[WE]⟩
def Xid (h:n<=8):JP (List.replicate n 0)=List.replicate 8 0:=by
 unfold JP;rw[s9,tf,show n+(8-n)=8 from by omega]
def fS {n:Nat} (h:n<=8):o4 (WE n)=aa (n:Int)::List.replicate 25 (aa 0):=by
 unfold o4 WE;simp only[Xid h];rfl
def XbL {m:Tab} {c:Int} (hm:m.Ok c) (b:Nat) (i:Int):Df prog 151 [pV b,aa i] Tr [Ac b 171<|o4 m] (λ_:Unit=>.bool<|decide (0<=i/\i<m.n)) Tr (λ_=>[Ac b 171<|o4 m]):=by
 intro w z y;refine enter (n:=15) (vs:=[pV b,aa i]) (St w [b] [Ac b 171<|o4 m]) func151 I I I (St.init y) ?_;refine Cs I<|Ak I<|Cs I<|Mv 3 I<|CB 7 I (λh=>?_)<|λh=>?_
 .exact Mv 3 I<|EJ JU I Z3 I<|Lo G3 0 I<|Mv 2 I<|Ak I<|Al<|Av I I<|λ_ x=>⟨(),congrArg Eb (by simp[h]),T0,x⟩
 exact Mv 7 I<|Ak I<|Al<|Av I I<|λ_ x=>⟨(),congrArg Eb gg,T0,x⟩
def K5 {m:Tab} {c:Int} (hm:m.Ok c) (b:Nat) (i s:Int):Df prog 150 [pV b,aa i,aa s] Tr [Ac b 171<|o4 m] (λ_:Unit=>.tuple #[]) Tr (λ_=>[Ac b 171<|o4<|o5 m i s]):=by
 intro w g d;by_cases hi:0<=i/\i<m.n
 .obtain⟨k,rfl⟩:=pB hi.1;have e:k<m.n:=J;have f:=hm.n8;refine enter (n:=32) (vs:=[pV b,aa k,aa s]) (St w [b] [Ac b 171<|o4 m]) func150 I I I (St.init d) ?_;refine Ad<|Y I<|C 2 I<|Z I<|Bp (XbL hm b k) I I I call151 I Tt<|λ_ _=>U I (Qt I)<|r I<|Sb 10 false I gg<|C 3 I<|N JU I sizeOf168 I<|U I (Bv k I underlying168 sizeOf167 I I I)<|U I (Aj I isAgg167 I uP<|XcE hm (k:=k) J j)<|C 2 I<|G<|CB 18 I (λh=>?_)<|λh=>?_
  .have x:o5 m k s=m:=by unfold o5;rw[pQ<|λz=>z.2.2 h]
   exact Am I<|Al<|Ag zB
  refine Ab I (Ah<|Kt<|Y I<|C 4 I<|N JU I sizeOf168 I<|U I (Bv k I underlying168 sizeOf167 I I I)<|Z I<|AB I I sizeOf167 I I I (by rw[I8 hm];show 0+1+k*1<26;omega)<|Bb (Xkk hm s (k:=k) J j)<|G<|Y I<|C 2 I<|G<|CB 26 I (λa=>?_)<|λa=>?_)
  .have y:Tab.Ok {m with st:=m.st.set k s} c:=⟨hm.n1,hm.n8,by simp[hm.st],hm.wt,hm.pk,hm.Tj,hm.XM,hm.w0⟩;have x:o5 m k s={m with st:=m.st.set k s,wt:=m.wt.set k 0}:=by unfold o5;rw[pN ⟨hi.1,hi.2,sv⟩,pQ a];rfl
   exact Am I<|Cr I<|C 3 I<|N JU I TG I<|U I (Bv k I TH Z3 I I I)<|Z I<|AB I I Z3 I I I (by rw[I8 y];show 0+9+k*1<26;omega)<|Bb (Up y 0 (k:=k) e j)<|AE<|AW zB
  have x:o5 m k s={m with st:=m.st.set k s}:=by unfold o5;rw[pN ⟨hi.1,hi.2,sv⟩,pN a];rfl
  exact Ab I<|Ah<|AW zB
 have x:o5 m i s=m:=by unfold o5;rw[pQ<|λz=>hi ⟨z.1,z.2.1⟩]
 refine enter (n:=32) (vs:=[pV b,aa i,aa s]) (St w [b] [Ac b 171<|o4 m]) func150 I I I (St.init d) ?_;exact Ad<|Y I<|C 2 I<|Z I<|Bp (XbL hm b i) I I I call151 I Tt<|λ_ _=>U I (Qt I)<|r I<|Sb 10 true I (by simp only[rV,rI];exact hi)<|C 8 I<|G<|Am I<|Al<|Ag zB
def ZA {m:Tab} {c:Int} (hm:m.Ok c) (b:Nat) (i:Int):Df prog 94 [pV b,aa i] Tr [Ac b 171<|o4 m] (λ_:Unit=>.tuple #[]) Tr (λ_=>[Ac b 171<|o4<|o5 m i 1]):=by
 intro w y x;refine enter (n:=7) (vs:=[pV b,aa i]) (St w [b] [Ac b 171<|o4 m]) func94 I I I aQ ?_;exact Cr I<|C 2 I<|Z I<|Bp (K5 hm b i 1) I I I call150 I Tt wM
def XlS {m:Tab} {c:Int} (hm:m.Ok c) (b:Nat) (i:Int):Df prog 92 [pV b,aa i] Tr [Ac b 171<|o4 m] (λ_:Unit=>.tuple #[]) Tr (λ_=>[Ac b 171<|o4<|o5 m i 0]):=by
 intro w y x;refine enter (n:=7) (vs:=[pV b,aa i]) (St w [b] [Ac b 171<|o4 m]) func92 I I I aQ ?_;exact Cr I<|C 2 I<|Z I<|Bp (K5 hm b i 0) I I I call150 I Tt wM
def XiT {m:Tab} {c:Int} (hm:m.Ok c) (b:Nat) (i:Int):Df prog 93 [pV b,aa i] Tr [Ac b 171<|o4 m] (λ_:Unit=>.tuple #[]) Tr (λ_=>[Ac b 171<|o4<|o5 m i 2]):=by
 intro w y x;refine enter (n:=7) (vs:=[pV b,aa i]) (St w [b] [Ac b 171<|o4 m]) func93 I I I aQ ?_;exact Cr I<|C 2 I<|Z I<|Bp (K5 hm b i 2) I I I call150 I Tt wM
def XeA {m:Tab} {c:Int} (hm:m.Ok c) (b:Nat):Df prog 76 [pV b] Tr [Ac b 171<|o4 m] (λv:d0=>v) Tr (λv=>[AG v 3 ds<|UK<|oZ m,Ac b 171<|o4 m]):=by
 intro w e d;have i:=hm.n8;refine enter (n:=28) (vs:=[pV b]) (St w [b] [Ac b 171<|o4 m]) func76 I I I (St.init d) ?_;refine Cs I<|Ak I<|Cs I<|Ak I<|Ad<|Ad<|LZ (rg 10) 0 _ I St.drawn Ih<|Md 2 I<|Ht JU I sizeOf168 I<|Md 2 I<|Ht JU I Z3 I<|Dq I X9<|Dq I (C9 m.n I underlying168 sizeOf167 I I I A1)<|Dq I (Fw I underlying224 I)<|Dm I<|AN<|Kt<|YA ?_;refine B6 (λ(k:Nat) (v:d0)=>[(3,v),(13,.slice (some ⟨b,0+1,none⟩) m.n 8),(14,aa (m.n:Int)),(15,aa (k:Int))]) (λ(k:Nat) (v:d0)=>St w [b] [AG v 3 ds<|Jt m k,Ac b 171<|o4 m]) (λ(k:Nat) (v:d0)=>k<=m.n) (λ(k:Nat) (v:d0)=>m.n-k) (0) (.slice none 0 0) (qc _) (Si I) Ih<|λk v g=>Cs I<|yR ?_
 refine CB 16 I (λh=>?_)<|λh=>?_
 .have z:=XN m k;refine Am I<|Ah<|Ks<|Af<|Cs I<|Lm I<|Lq I (Ic k I underlying224 sizeOf167 I I I A1)<|Lq I (Aj I isAgg167 I uq<|XcE hm (k:=k) A1 A3)<|Nh I<|Ak I<|Cs I<|Mv 2 I<|Nk<|CB 21 I (λy=>?_)<|λy=>?_
  .refine Am I (Cr I<|Mv 2 I<|LW I<|As (sz:=1) [.tmp 23] I I I I I KI Z3 I zeroValue3 I<|λf=>AD<|LW I<|Ap KI KI CD I (λ_ h=>AR kj ds [(k:Int)] I I) A8<|λa=>Ba (Xgu y)<|zI ?_);exact AJ ((k+1,a)) A4 A4 (Si I) Jx
  refine Tm ?_;exact AJ ((k+1,v)) A4 A4 (Si I)<|λ_ h=>by rw[<-bj y];exact h
 have x:k=m.n:=by omega
 exact Ab I<|AP<|Aa<|Aa<|Ar<|Kt<|Cs I<|Lm I<|Ak I<|Al<|Av I I<|λ_ h=>⟨v,rfl,T0,by rw[x,Xi4] at h;exact h⟩
def XlE {m:Tab} {c:Int} (hm:m.Ok c) (K:c<=1000000) (b:Nat) (p:Int):Df prog 38 [pV b,aa p] Tr [Ac b 171<|o4 m] (λ_:Unit=>.tuple #[aa (Og m p:Int),.bool<|decide (oZ m≠[])]) Tr (λ_=>[Ac b 171<|o4<|oW m p]):=by
 intro w Y O;have X:=hm.n8;have L:=SO m;have W:=Us (m:=m) p;refine enter (n:=77) (vs:=[pV b,aa p]) (St w [b] [Ac b 171<|o4 m]) func38 I I I (St.init O) ?_;refine Cs I<|Nh I<|Ak I<|Cs I<|Lm I<|LW I<|GZ (XeA hm b) I I I call76 I Tt<|λv _=>Ak I<|Cs I<|Lm I<|Lq I Xg<|Ak I<|Ad<|Cs I<|Mv 2 I<|Nk<|CB 16 I (λu=>?_)<|λu=>?_
 .have a:oZ m=[]:=by simpa [UK] using u
  have q:oW m p=m:=by unfold oW;rw[pN a]
  exact Am I<|Cs I<|Nh I<|Ak I<|Al<|Ag<|Bw (rs:=[.tmp 4,.tmp 5]) I I<|λ_ h=>⟨(),by simp[Og,a],T0,by rw[q];exact h.drop⟩
 have a:oZ m≠[]:=by simpa [UK] using u
 have J:0<(oZ m).length:=sM.2 a;have C:(UK<|oZ m).length=(oZ m).length:=Xgv _;have S:=Us p a;have D:=Xaq<|XbK p a;have Q:=I9<|lJ p a;have V:=Int.tmod_lt_of_pos p<|show (0:Int)<((UK<|oZ m).length:Int) by omega
 have b2 : -((UK<|oZ m).length:Int)<p.tmod ((UK<|oZ m).length:Int):=Int.lt_tmod_of_pos p A1;have l:=Xgw (p:=p) (n:=((UK<|oZ m).length:Int)) A1;have B:=Int.emod_nonneg p<|show ((oZ m).length:Int)≠0 by omega
 have q:oW m p=Kn (Vg (Og m p) m<|oZ m) (Og m p):=by unfold oW;rw[pQ a]
 generalize Og m p=t at *;refine Ab I<|Ah<|Kt<|Cs I<|Mv 3 I<|Lq I (Yy I I I A1)<|Lm I<|Lq I py<|Lm I<|Lq I wB<|LH 24 (aa ((((p%((oZ m).length:Int)).toNat):Nat):Int)) I (by rw[l,C,Int.toNat_of_nonneg B])<|Lq I (Aw ((p%((oZ m).length:Int)).toNat) I KI Z3 I ur I I)<|Lq I (AO ((p%((oZ m).length:Int)).toNat) 0 I G3 I I ur D I)<|Ak I<|Ad<|Cs I<|Lm I<|Lq I Xg<|uG ?_;refine Bm (λ(i:Nat)=>[(0,pV b),(8,aa (t:Int)),(27,v),(28,aa ((UK<|oZ m).length:Int)),(29,aa (i:Int))]) (λ(i:Nat)=>St w [b] [AG v 3 ds<|UK<|oZ m,Ac b 171<|o4<|Vg t m<|(oZ m).take i]) (λ(i:Nat)=>i<=(oZ m).length) (λ(i:Nat)=>(oZ m).length-i) (0) (qc _) (Si I) Ih<|λi hi=>Cs I<|yR ?_
 refine CB 30 I (λR=>?_)<|λR=>?_
 .have H:i<(oZ m).length:=by omega
  obtain⟨x,s⟩:∃x,(oZ m)[i]?=some x:=⟨_,pE H⟩
  have G:=Xaq s;have hx:=I9<|ry s;have y:=Km t ((oZ m).take i) hm<|λz r=>I9<|pF r
  have A:=Kl t ((oZ m).take i) m;have e:=(congrArg (Vg t m)<|XfD s).trans<|Uq t m _ x;generalize Vg t m ((oZ m).take i)=M at *;have N:=y.Tj x A1;have E:=y.w0;have f:x<M.n:=A1;have Z:c+((oZ m).take i).length<=4611686018427387904:=by have:=tt i<|oZ m;omega
  refine Am I<|Ah<|Ks<|Af<|Cs I<|Lq I xO<|Lq I (AO i 0 I G3 I I ur G I)<|Ak I<|Cs I<|Mv 3 I<|Nk<|CB 35 I (λP=>?_)<|λP=>?_
  .have j:x≠t:=by omega
   unfold FO at e;rw[pQ j] at e;have d:Tab.Ok {M with wt:=M.wt.set x<|M.wt.getD x 0+1} (c+((oZ m).take i).length+1):=by have:=XbJ y f t;unfold FO at this;rw[pQ j] at this;exact⟨this.n1,this.n8,this.st,this.wt,this.pk,this.Tj,this.XM,by simp only;omega⟩
   have F:(M.wt.set x<|M.wt.getD x 0+1).getD x 0=M.wt.getD x 0+1:=by rw[ZF,pN ⟨rfl,by rw[y.wt];exact f⟩]
   refine Am I<|Ad<|LZ (rg 11) 118098 _ I St.drawn Ih<|Md 3 I<|Ht JU I TG I<|Dq I (Bv x I TH Z3 I I I)<|Dq I (Aj I G3 I uq<|XcF y (k:=x) f A3)<|Dq I py<|Dc I<|Ht JU I TG I<|Dq I (Bv x I TH Z3 I I I)<|AD<|KC I<|AB I I Z3 I I I (by rw[I8 y];show 0+9+x*1<26;omega)<|Bb (Up y (M.wt.getD x 0+1) (k:=x) f A3)<|AN<|Kt<|LZ (rg 15) 9565938 _ I St.drawn Ih<|Md 3 I<|Ht JU I Z3 I ?_;refine Dq I (Aj I G3 I uP<|Xgs d I)<|Md 3 I<|Ht JU I TG I<|Dq I (Bv x I TH Z3 I I I)<|Dq I (Aj I G3 I uP<|(XcF d (k:=x) f A3).trans<|by show some (aa<|(M.wt.set x<|M.wt.getD x 0+1).getD x 0)=_;rw[F])<|Dq I (mb I I I)<|Dc I<|Ht JU I Z3 I<|KC I<|AB I I Z3 I I I (by rw[I8 d];show 0+25<26;omega)<|Bb (Xgt d _ I)<|AN<|Au<|Kt<|Cr I<|Lq I (Qi I)<|Lm I<|AE<|AD ?_;exact ZHJ
  have j:x=t:=by omega
  unfold FO at e;rw[pN j] at e;refine Tm ?_;exact ZHJ
 have o:(oZ m).take i=oZ m:=pZ A1;have y:=Km t (oZ m) hm<|λz r=>I9 r
 have A:=Kl t (oZ m) m;rw[o];unfold Kn at q;generalize Vg t m (oZ m)=M at *;have g:t<M.n:=A1;have U:=y.XM t g;have E:=y.w0;have d:Tab.Ok {M with wt:=M.wt.set t 0} (c+(oZ m).length):=⟨y.n1,y.n8,y.st,by simp[y.wt],y.pk,λk T=>by have:=y.Tj k T;simp only[ZF];split<;>omega,y.XM,y.w0⟩;refine Ab I<|AP<|Aa<|Aa<|Ar<|Kt<|Cs I<|Mv 3 I<|EJ JU I TG I<|Lq I (Bv t I TH Z3 I I I)<|AD<|LW I<|AB I I Z3 I I I (by rw[I8 y];show 0+9+t*1<26;omega)<|Bb (Up y 0 (k:=t) g A3)<|Ns<|LZ (rg 11) 118098 _ I St.drawn Ih<|Md 3 I<|Ht JU I TG I<|Dq I (Bv t I TH Z3 I I I)<|Dq I (Aj I G3 I uP<|Xkj d (k:=t) g A3) ?_;exact Dq I (AZ I I I<|by show _<=M.pk.getD t 0+1/\M.pk.getD t 0+1<=_;omega)<|Dc I<|Ht JU I TG I<|Dq I (Bv t I TH Z3 I I I)<|KC I<|AB I I Z3 I I I (by rw[I8 d];show 0+17+t*1<26;omega)<|Bb (Xkl d _ (k:=t) g A3)<|AN<|Kt<|Cs I<|Mv 2 I<|Ak I<|Al<|Bw (rs:=[.tmp 4,.tmp 5]) I I<|λ_ h=>⟨(),by rw[show decide (oZ m≠[])=true from by simpa using a],T0,by rw[q];exact h.sublist<|tA.2<|sj _⟩
def Xlj {n:Nat} (a:1<=n) (x:n<=8):Df prog 53 [aa (n:Int)] Tr [] (λb:Nat=>.tuple #[pV b,aa 0]) Tr (λb=>[Ac b 171<|o4<|WE n]):=by
 intro w z y;refine E0 func53 I y ?_;exact Cs I<|Nh I<|Ak I<|Ad<|Cs I<|Mv 3 I<|Sf 6 I A1<|Lm I<|Lq I vd<|Lq I (Qz I)<|Nk<|Sf 9 I A1<|Ab I<|Ah<|Kt<|Cs I<|Lm I<|Lq I (AS (aa (n:Int)::List.replicate 25 (aa 0)) I I uX)<|LW I<|AT I I I I<|λb=>Bb (fS x).symm<|Nh I<|Ak I<|Al<|Bw (rs:=[.tmp 2,.tmp 3]) I I<|λ_ h=>⟨b,rfl,T0,h⟩
end Go.Proofs.YtloldofjddbjoaaGreat.Sc
namespace Go.Proofs.YtloldofjddbjoaaGreat
open Go.Sep Go.RowKit Tryz
variable {B:Nat} {x:HQ} {L:Hm}
structure GH (x:HQ) (L:Hm) (B:Nat):Prop where
 ok:x.Ok B
 hm:x.hm=L
def GH.mono {C:Nat} (h:GH x L B) (y:B<=C) (z:C<=60000):GH x L C:=⟨h.ok.mono y z,h.hm⟩
inductive Tk where
 |c (b:Nat)
 |f (b:Nat)
 |e
def Tk.v:Tk->d0
 |.c b=>.iface 103 (BM b)
 |.f b=>.iface 108 (.agg #[BM b])
 |.e=>.iface 111<|.agg #[]
def Tk.enc:Enc Tk:=⟨1,λt=>[t.v],λ_=>rfl,λa u h=>by simp at h;subst h;cases a<;>rfl,by decide⟩
structure FM where
 b:Nat
 br:Nat
 m:Fl
abbrev FM.H (f:FM) (t:Int):ci:=f.m.H f.b t f.br
def RD:Nat->List CC->ci
 |_,[]=>[]
 |k,c::cs=>c.H (k:Int)++RD (k+1) cs
def WW:Nat->Nat->List CC->ci
 |_,_,[]=>[]
 |k,0,_::cs=>RD (k+1) cs
 |k,i+1,c::cs=>c.H (k:Int)++WW (k+1) i cs
def Qa:Nat->List FM->ci
 |_,[]=>[]
 |k,f::fs=>f.H (k:Int)++Qa (k+1) fs
def Y3:Nat->Nat->List FM->ci
 |_,_,[]=>[]
 |k,0,_::fs=>Qa (k+1) fs
 |k,i+1,f::fs=>f.H (k:Int)++Y3 (k+1) i fs
def QF:∀{cs:List CC} {k i:Nat} {c:CC},cs[i]?=some c->(RD k cs).Perm (c.H ((k+i:Nat):Int)++WW k i cs)
 |[],k,i,c,h=>yF
 |x::cs,k,0,c,h=>nS
 |x::cs,k,i+1,c,h=>by
  have y:=QF (cs:=cs) (k:=k+1) (i:=i) (c:=c) sv
  exact ZCO
def XcV:∀{cs:List CC} {k i:Nat} (c:CC),i<cs.length->(c.H ((k+i:Nat):Int)++WW k i cs).Perm (RD k<|cs.set i c)
 |[],k,i,c,h=>yF
 |x::cs,k,0,c,h=>sU _
 |x::cs,k,i+1,c,h=>by
  have y:=XcV (cs:=cs) (k:=k+1) (i:=i) c sv
  exact ZCN
def Ut:∀{cs:List FM} {k i:Nat} {c:FM},cs[i]?=some c->(Qa k cs).Perm (c.H ((k+i:Nat):Int)++Y3 k i cs)
 |[],k,i,c,h=>yF
 |x::cs,k,0,c,h=>nS
 |x::cs,k,i+1,c,h=>by
  have y:=Ut (cs:=cs) (k:=k+1) (i:=i) (c:=c) sv
  exact ZCO
def XcW:∀{cs:List FM} {k i:Nat} (c:FM),i<cs.length->(c.H ((k+i:Nat):Int)++Y3 k i cs).Perm (Qa k<|cs.set i c)
 |[],k,i,c,h=>yF
 |x::cs,k,0,c,h=>sU _
 |x::cs,k,i+1,c,h=>by
  have y:=XcW (cs:=cs) (k:=k+1) (i:=i) c sv
  exact ZCN
structure HC where
 bH:Nat
 bt:Nat
 vT:d0
 vO:d0
 vE:d0
 cc:List CC
 fl:List FM
 x:HQ
structure HM where
 L:Hm
 cs:List Cl
 fs:List Fl
 sq:Int
 pk:Nat
 ev:List O1
 T:Sc.Tab
def HC.tks (h:HC):List Tk:=h.cc.map (λc=>Tk.c c.b)++(h.fl.map (λf=>Tk.f f.b)++[Tk.e])
abbrev HC.tl (h:HC):ci:=RD 0 h.cc++(Qa h.cc.length h.fl++h.x.H)
abbrev HC.H (h:HC) (m:HM):ci:=OZ h.bH (BM h.x.bh) h.bt h.vT h.vO h.vE m.sq m.pk::AG h.vE 71 O1.enc m.ev::AG h.vT 102 Tk.enc h.tks::Ac h.bt 171 (Sc.o4 m.T)::h.tl
structure O9 (h:HC) (m:HM) (B:Nat):Prop where
 lh:GH h.x m.L B
 cs:h.cc.map CC.m=m.cs
 fs:h.fl.map FM.m=m.fs
 tn:m.T.n=m.cs.length+(m.fs.length+1)
 tok:m.T.Ok ((B*10:Nat):Int)
 n8:m.cs.length+(m.fs.length+1)<=8
 ol:∀c∈m.cs,c.ops.length<=1000/\c.nx<=c.ops.length/\(c.ph.Xx=false->c.nx<c.ops.length)
 ng:∀f∈m.fs,f.n<=B/\f.g<=B
 ev:m.ev.length<=B
 sq:1<=m.sq/\m.sq<=B+1
 pk:m.pk<=B
def O9.len {h:HC} {m:HM} (k:O9 h m B):h.cc.length=m.cs.length:=by rw[<-k.cs,qY]
def O9.nf {h:HC} {m:HM} (k:O9 h m B):h.fl.length=m.fs.length:=by rw[<-k.fs,qY]
def O9.yV {h:HC} {m:HM} (k:O9 h m B) {i:Nat} {f:FM} (x:h.fl[i]?=some f):m.fs[i]?=some f.m:=by rw[<-k.fs,qq,x];rfl
def O9.fV {h:HC} {m:HM} (k:O9 h m B):h.tks.length=m.T.n:=by
 unfold HC.tks;rw[k.tn];simp[k.len,k.nf]
def O9.at {h:HC} {m:HM} (k:O9 h m B) {i:Nat} {c:CC} (x:h.cc[i]?=some c):m.cs[i]?=some c.m:=by rw[<-k.cs,qq,x];rfl
def O9.tk {h:HC} {m:HM} (k:O9 h m B) {i:Nat} {a:Tk} (x:h.tks[i]?=some a):(∃c,h.cc[i]?=some c/\a=Tk.c c.b)\/(∃f,m.cs.length<=i/\h.fl[i-m.cs.length]?=some f/\a=Tk.f f.b)\/(m.cs.length+m.fs.length=i/\a=Tk.e):=by
 unfold HC.tks at x;by_cases h1:i<h.cc.length
 .rw[pL (by simpa using h1),qq] at x;obtain⟨c,d⟩:∃c,h.cc[i]?=some c:=⟨_,pE h1⟩
  rw[d] at x;cases x
  exact .inl ⟨c,d,rfl⟩
 rw[pO gg,qY] at x;by_cases h2:i-h.cc.length<h.fl.length
 .rw[pL (by simpa using h2),qq] at x;obtain⟨b,z⟩:∃f,h.fl[i-h.cc.length]?=some f:=⟨_,pE h2⟩
  rw[z] at x;cases x
  rw[k.len] at z h1;exact .inr<|.inl ⟨b,J,z,rfl⟩
 rw[pO gg,qY] at x
 have y:i-h.cc.length-h.fl.length=0:=by
  have:=(qp.1 x).1;simp at this;omega
 rw[y] at x;cases x
 rw[k.nf] at h2 y;rw[k.len] at h1 h2 y;exact .inr<|.inr ⟨J,rfl⟩
def QG (a b c d:Nr) (C h F X:ci):(a::b::c::d::((C++h)++(F++X))).Perm ((a::b::(C++X))++(c::d::(h++F))):=by
 refine List.Perm.cons a<|List.Perm.cons b<|List.Perm.trans ?_<|sV (l₁:=c::d::(h++F)) (l₂:=C++X);show (c::d::_).Perm (c::d::((h++F)++(C++X)))
 refine List.Perm.cons c<|List.Perm.cons d ?_;rw[qQ,qQ];exact (tS C h<|F++X).trans<|(tS C F X).append_left h
def QH (a b c d:Nr) (Y:ci):(a::b::c::d::Y).Perm (a::c::b::d::Y):=List.Perm.cons a<|List.Perm.swap _ _ _
def Xkm (a b c d:Nr) (C F X:ci):(a::b::c::d::(C++(F++X))).Perm ((a::c::X)++(b::d::(C++F))):=by
 refine (QH a b c d _).trans<|List.Perm.cons a<|List.Perm.cons c<|List.Perm.trans ?_<|sV (l₁:=b::d::(C++F)) (l₂:=X);show (b::d::_).Perm (b::d::((C++F)++X))
 rw[qQ]
def fT (t:Int) (L:Hm) (c:Cl):Bool:=match c.ph with
 |.idle=>!decide (c.nx=c.ops.length)
 |_=>L.may t
def bD (N:Nat->Nd) (t:Int) (L:Hm) (f:Fl):Bool:=if f.a=1/\f.w=false then Gc (L.UJ N) else L.may t
def bE (L:Hm):Bool:=decide (0<L.M.line.length)&&decide (L.M.free=0)
def FV (N:Nat->Nd) (m:HM) (i:Nat):Bool:=match m.cs[i]? with
 |some c=>fT (i:Int) m.L c
 |none=>match m.fs[i-m.cs.length]? with
  |some f=>bD N (i:Int) m.L f
  |none=>bE m.L
def Ue (N:Nat->Nd) (m:HM) (i:Nat):Int:=if FV N m i=true then 0 else match m.cs[i]? with
 |some c=>if c.ended=true then 2 else 1
 |none=>1
def oV (N:Nat->Nd) (m:HM):Nat->Sc.Tab->Sc.Tab
 |0,T=>T
 |k+1,T=>Sc.o5 (oV N m k T) (k:Int)<|Ue N m k
def HU (N:Nat->Nd) (m:HM):∀(k:Nat) (T:Sc.Tab),(oV N m k T).n=T.n
 |0,T=>rfl
 |k+1,T=>by show (Sc.o5 _ _ _).n=_;rw[Sc.XlL,HU N m k T]
def SP (N:Nat->Nd) (m:HM) {c:Int}:∀(k:Nat) {T:Sc.Tab},T.Ok c->(oV N m k T).Ok c
 |0,T,h=>h
 |k+1,T,h=>Sc.XlM (SP N m k h) _ _
def nu (h:GH x L B) {N:Nat->Nd} (m:Ui N L) (a g:Nat) (z d f:d0) (sq pk:Int) (tks:List Tk) (i:Nat) (hi:tks.length<=8) (b nx:Nat) (y:d0) (ops:cv) (more:ci) (e:tks[i]?=some (.c b)):Df prog 91 [BM a,aa (i:Int)] Tr (OZ a (BM x.bh) g z d f sq pk::AG z 102 Tk.enc tks::Oh b y nx [av,av]::AG y 43 Opn.enc ops::(more++x.H)) (λ_:Unit=>.bool<|!decide (nx=ops.length)) Tr (λ_=>OZ a (BM x.bh) g z d f sq pk::AG z 102 Tk.enc tks::Oh b y nx [av,av]::AG y 43 Opn.enc ops::(more++x.H)):=by
 intro w l j;have k:=(qp.1 e).1;obtain⟨h,rfl⟩:=h;refine Ey func91 I j<|Y I<|A I<|Ad<|Y I<|C 2 I<|EJ Cz I Tc I<|Lo VE 0 I<|r I<|U I Zt<|U I (AO i 0 I JV I I RF e I)<|iQ ?_;exact AQ<|Z I<|Bp (XbI b 0 nx y) I I I call75 I Tt<|λ_ _=>G<|Ab I<|Ah<|Kt<|Y I<|r I<|Pm [0,2] I<|Z I<|DE (SM b 0 nx y ops) I I I call37 I Tt<|λ_ _=>U I (Qt I)<|A I<|s<|AA<|Ag<|Pm [2,2] I LF
def nw (h:GH x L B) {N:Nat->Nd} (n:Ui N L) (a j:Nat) (z e g:d0) (sq pk:Int) (tks:List Tk) (i:Nat) (hi:tks.length<=8) (b d nx:Nat) (y:d0) (ops:cv) (more:ci) (f:tks[i]?=some (.c b)):Df prog 91 [BM a,aa (i:Int)] Tr (OZ a (BM x.bh) j z e g sq pk::AG z 102 Tk.enc tks::Oh b y nx [BM d,av]::AG y 43 Opn.enc ops::(more++x.H)) (λ_:Unit=>.bool<|L.may (i:Int)) Tr (λ_=>OZ a (BM x.bh) j z e g sq pk::AG z 102 Tk.enc tks::Oh b y nx [BM d,av]::AG y 43 Opn.enc ops::(more++x.H)):=by
 intro w m k;have l:=(qp.1 f).1;obtain⟨h,rfl⟩:=h;refine Ey func91 I k<|Y I<|A I<|Ad<|Y I<|C 2 I<|EJ Cz I Tc I<|Lo VE 0 I<|r I<|U I Zt<|U I (AO i 0 I JV I I RF f I)<|iQ ?_;refine AQ<|Z I<|Bp (XcB b d nx y) I I I call75 I Tt<|λ_ _=>G<|Am I<|Y I<|C 2 I<|EJ Cz I Wi I<|Lo Vs 1 I<|r I<|Pm [1,1] I<|Z I<|Ee (_::_::_::_::more) (FI h (i:Int)) I call82 Tt<|λ_ _=>Pre.world (St _ _<|_::_::_::_::(more++x.H)) Ih ?_
 exact A I<|s<|Ag<|AA<|Ag LF
def Xll (h:GH x L B) {N:Nat->Nd} (n:Ui N L) (a j:Nat) (z e g:d0) (sq pk:Int) (tks:List Tk) (i:Nat) (hi:tks.length<=8) (b d nx:Nat) (y:d0) (ops:cv) (more:ci) (f:tks[i]?=some (.c b)):Df prog 91 [BM a,aa (i:Int)] Tr (OZ a (BM x.bh) j z e g sq pk::AG z 102 Tk.enc tks::Oh b y nx [av,BM d]::AG y 43 Opn.enc ops::(more++x.H)) (λ_:Unit=>.bool<|L.may (i:Int)) Tr (λ_=>OZ a (BM x.bh) j z e g sq pk::AG z 102 Tk.enc tks::Oh b y nx [av,BM d]::AG y 43 Opn.enc ops::(more++x.H)):=by
 intro w m k;have l:=(qp.1 f).1;obtain⟨h,rfl⟩:=h;refine Ey func91 I k<|Y I<|A I<|Ad<|Y I<|C 2 I<|EJ Cz I Tc I<|Lo VE 0 I<|r I<|U I Zt<|U I (AO i 0 I JV I I RF f I)<|iQ ?_;refine AQ<|Z I<|Bp (XcC b d nx y) I I I call75 I Tt<|λ_ _=>G<|Am I<|Y I<|C 2 I<|EJ Cz I Wi I<|Lo Vs 1 I<|r I<|Pm [1,1] I<|Z I<|Ee (_::_::_::_::more) (FI h (i:Int)) I call82 Tt<|λ_ _=>Pre.world (St _ _<|_::_::_::_::(more++x.H)) Ih ?_
 exact A I<|s<|Ag<|AA<|Ag LF
def XcX (h:GH x L B) {N:Nat->Nd} (q:Ui N L) (c l:Nat) (z e k:d0) (sq pk:Int) (tks:List Tk) (i:Nat) (hi:tks.length<=8) (b:Nat) (t a:Int) (y p:Bool) (d:d0) (n g:Nat) (more:ci) (j:tks[i]?=some (.f b)):Df prog 91 [BM c,aa (i:Int)] Tr (OZ c (BM x.bh) l z e k sq pk::AG z 102 Tk.enc tks::TF b t a y p d n g::(more++x.H)) (λ_:Unit=>.bool (if a=1/\y=false then Gc (L.UJ N) else L.may (i:Int))) Tr (λ_=>OZ c (BM x.bh) l z e k sq pk::AG z 102 Tk.enc tks::TF b t a y p d n g::(more++x.H)):=by
 intro w u o;have r:=(qp.1 j).1;obtain⟨h,rfl⟩:=h;refine Ey func91 I o<|Cs I<|Ak I<|Ad<|Cs I<|Mv 2 I<|EJ Cz I Tc I<|Lo VE 0 I<|Lm I<|Lq I Zt<|Lq I (AO i 0 I JV I I RF j I)<|Nk<|Af<|Cs I<|Lq rfl Zb (Mv 2 I<|Nk<|Ab I<|Cs I<|Lq rfl (Cj rfl TJ uQ rfl) (Mv 2 I<|Nk ?_));refine Am I<|Cs I<|LW I<|Ax I I I zeroValue108<|λs=>Ce [av] I<|LW I<|AF rfl rfl sizeOf108 rfl rfl rfl (by intro v m;simp at m;subst m;rfl) (rO rfl) (Ce [BM b] I<|Ns<|Cs I<|EJ TJ I sizeOf106 I<|Lo DZ 0 I<|BP<|LW I<|Bp (IG b t a y p d n g) I I I call147 I Tt<|λ_ _=>Nk ?_)
 by_cases hr:a=1/\y=false
 .refine Sb 33 true I (by rw[hr.2,sT hr.1];rfl) (Am I<|Cs I<|Mv 2 I<|EJ Cz I Wi I<|Lo Vs 2 I<|Pm [1,1,1] I<|LW I<|Ee (_::_::_::_::more) (Xk4 h q) I call148 Tt<|λ_ _=>Pre.world (St _ _<|_::_::_::_::(more++x.H)) Ih ?_);exact Ak I<|Al<|Ag<|AA<|Ag<|Ae<|Av I I<|λ_ h=>⟨(),congrArg Eb (by rw[pN hr]),T0,h⟩
 refine Sb 33 false rfl (by by_cases h1:a=1;(rw[sT h1];cases y;(exact absurd ⟨h1,rfl⟩ hr);rfl);(rw[sS h1];rfl)) (Ab I<|Ah<|Kt<|Cs I<|Mv 2 I<|EJ Cz I Wi I<|Lo Vs 2 I<|Lm I<|Pm [1,1,1] I<|LW I<|Ee (_::_::_::_::more) (FI h (i:Int)) I call82 Tt<|λ_ _=>Pre.world (St _ _<|_::_::_::_::(more++x.H)) Ih ?_);exact Ak I<|Al<|AA<|Ag<|Ae<|Av I I<|λ_ h=>⟨(),congrArg Eb (by rw[pQ hr]),T0,h⟩
def nz (h:x.Ok B):Df prog 149 [BM x.bh] Tr (x.H) (λ_:Unit=>aa (x.q.M.free:Int)) Tr (λ_=>x.H):=by
 intro w z y;refine Ey func149 I y<|Y I<|A I<|Y I<|C 2 I<|N Pz I SS I<|Lo TW 0 I<|Z I<|Ee [] (j8 h) I call193 Tt<|λ_ _=>Pw (St _ _<|HQ.H<|x) ?_
 exact xj