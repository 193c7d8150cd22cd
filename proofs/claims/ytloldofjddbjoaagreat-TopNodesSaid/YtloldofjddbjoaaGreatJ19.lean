/- Part 19. -/
import Derived.Test.YtloldofjddbjoaaGreatJ18
set_option linter.all false
set_option maxHeartbeats 8000000
set_option maxRecDepth 100000
namespace Go.Proofs.YtloldofjddbjoaaGreat
open Go.Sep Go.RowKit Tryz
variable {va:d0} {n B i j:Nat} {z:HC} {l:cv}
def We (v:Int):Df prog 65 [aa v] Tr [] (λo:Opn=>.agg o.c.toArray) (λo=>1<=o.kind/\o.kind<=4/\o.key.size<=17) (λ_=>[]):=by
 intro w u m;refine E0 func65 I m<|Y I<|Z I<|Ax I I I zeroValue43<|λf=>M [aa 0,.string ⟨#[]⟩,.string ⟨#[]⟩,am 0] I<|Nk<|Y I<|r I<|Z I<|E1 oN I call27 Tt<|λ_ _=>A I<|E ?_
 obtain⟨k,q,p⟩:∃k:Nat,v%1099511627776=(k:Int)/\k<1099511627776:=nR
 refine LH 3 (aa (k:Int)) I (by rw[q])<|Cr I<|r I<|Lq I wB<|Lq I py<|r I<|Lq I xg<|Z I<|E1 (lL _) I call111 Tt<|λl _=>Z I<|E1 (cM l) I call110 Tt<|λt s=>Lq I (AS ([aa<|1+(k:Int)%4,.string t,.string .empty,am 0]) I I uX)<|Z I<|Ax I I I zeroValue43<|λe=>M [aa 0,.string ⟨#[]⟩,.string ⟨#[]⟩,am 0] I<|Z I<|AF rfl rfl U7 rfl rfl rfl yd bZ (Bb (I)<|Ns<|Y I<|EJ Ru I Z3 I<|Lo G3 0 I<|Nk ?_)
 refine Ew (λ(x:ByteArray) (b:Int)=>[(2,BM f),(3,aa (k:Int)),(4,BM e)]) (λ(x:ByteArray) (b:Int)=>St w [] [Ac e 43 [aa<|1+(k:Int)%4,.string t,.string x,am b],Ac f 43 [aa 0,.string .empty,.string .empty,am 0]]) (λ(x:ByteArray) (b:Int)=>x.size<=16/\(Lit.int .u64 b).wf=true) ?_ ?_
 .refine Af (Y I<|Lq I (Qe I)<|A I<|CB 17 I (λj=>?_)<|λj=>?_)
  .refine Am I (Cr I<|r I<|Lq I xg<|Z I<|E1 (cP _) I call113 Tt<|λn _=>Z I<|E1 (cN n) I call112 Tt<|λx d=>EJ Ru I Z9 I<|Z I<|AB I I Z9 I I I (by show 2<4;decide)<|M [aa<|1+(k:Int)%4,.string t,.string x,am 0] I<|AE<|Au ?_);exact Bf ((x,0)) ⟨d,ZH2⟩ (Si I) Jx
  refine Ab I (Y I<|Lq I (Qe I)<|A I<|CB 24 I (λg=>?_)<|λg=>?_)
  .refine Am I (Cr I<|r I<|Lq I xg<|Lq I (Br I U3 Y6 I<|D4)<|Lq I (Xc2 I I I)<|EJ Ru I Qb I<|Z I<|AB I I Qb I I I (by show 3<4;decide)<|M [aa<|1+(k:Int)%4,.string t,.string .empty,am<|IntKind.u64.wrap<|(k:Int)/4096*4099] I<|AE<|Au ?_);exact Bf ((.empty,(IntKind.u64.wrap<|(k:Int)/4096*4099))) ⟨ZHq,Xhh _⟩ (Si I) Jx
  refine Ab I (Ah<|Au ?_);exact Bf ((.empty,0)) ⟨ZHq,ZH2⟩ (Si I) Jx
 intro x b i;obtain⟨d,z⟩:=i;refine E<|Y I<|r I<|Lq I xg<|Lq I wB<|Lq I (Qe I)<|Nk ?_;refine ES (λ(t2:ByteArray)=>[(2,BM f),(3,aa (k:Int)),(4,BM e)]) (λ(t2:ByteArray)=>St w [] [Ac e 43 [aa<|1+(k:Int)%4,.string t2,.string x,am b],Ac f 43 [aa 0,.string .empty,.string .empty,am 0]]) (λ(t2:ByteArray)=>t2.size<=17) ?_ ?_
 .refine CB 34 I (λr=>?_) (λr=>?_)
  .refine Am I (Cr I<|EJ Ru I Z9 I<|Lo isAgg9 0 I<|Lq I (zY I I I<|by show t.size+9<=_;omega)<|EJ Ru I Z9 I<|Z I<|AB I I Z9 I I I (by show 1<4;decide)<|M [aa<|1+(k:Int)%4,.string<|t++(⟨#[49,50,51,52,53,54,55,56,57]⟩:ByteArray),.string x,am b] I<|AE ?_);exact Bf (t++(⟨#[49,50,51,52,53,54,55,56,57]⟩:ByteArray)) (by show ByteArray.size (_++_)<=17;rw[ByteArray.size_append];show t.size+9<=17;omega) (Si I) Jx
  refine Ab I (Ah ?_);exact Bf t J (Si I) Jx
 intro t2 a;refine E<|Y I<|r I<|Lq I xg<|Lq I wB<|C 2 I<|CB 43 I (λj=>?_)<|λj=>?_
 .refine EJ Ru I Z3 I (Lo G3 0 I<|C 2 I<|Nk<|CB 47 I (λg=>?_)<|λg=>?_)
  .exact Am I<|Cr I<|EJ Ru I Z9 I<|Lo isAgg9 0 I<|Lq I (zY I I I<|by show x.size+18<=_;omega)<|EJ Ru I Z9 I<|Z I<|AB I I Z9 I I I (by show 2<4;decide)<|M [aa<|1+(k:Int)%4,.string t2,.string<|x++(⟨#[115,101,118,101,110,116,101,101,110,32,98,121,116,101,115,32,46,46]⟩:ByteArray),am b] I<|Nk<|Y I<|Lq I (Cq ([aa<|1+(k:Int)%4,.string t2,.string<|x++(⟨#[115,101,118,101,110,116,101,101,110,32,98,121,116,101,115,32,46,46]⟩:ByteArray),am b]) ZP U7 0 I (I)<|I)<|AD<|Z I<|AF rfl rfl U7 rfl rfl rfl yd bZ (M [aa<|1+(k:Int)%4,.string t2,.string<|x++(⟨#[115,101,118,101,110,116,101,101,110,32,98,121,116,101,115,32,46,46]⟩:ByteArray),am b] I<|Nk<|Al<|CE I (AL I ZP U7 uP<|I)<|λ_ h=>⟨⟨(1+(k:Int)%4),t2,(x++(⟨#[115,101,118,101,110,116,101,101,110,32,98,121,116,101,115,32,46,46]⟩:ByteArray)),b,XaH J J,z⟩,rfl,ZDk,h.oS⟩)
  exact px
 exact C 4 I<|Nk px
structure SQ where
 vo:d0
 q0:Sv
 q1:Sv
 q2:Sv
 q3:Sv
 o0:cv
 o1:cv
 o2:cv
 o3:cv
def gG (o:Opn):Prop:=1<=o.kind/\o.kind<=4/\o.key.size<=17
def SQ.vs (b:SQ) (n:Nat):List Sv:=[b.q0,b.q1,b.q2,b.q3].take n
def SQ.ops (b:SQ) (n:Nat):List (cv):=[b.o0,b.o1,b.o2,b.o3].take n
def L1 (n j i:Nat):Nat:=(i+(n-1-j))/n
def Ky (n j i:Nat):L1 n j i<=L1 n j (i+1):=Nat.div_le_div_right J
def QY (x:1<=n) (h:n<=4) (hi:i<=n*24):L1 n j i<=27/\(j<n->L1 n j i<=24):=by
 exact ZEK
def Mn {n j i:Nat} (x:1<=n) (y:n<=4) (hj:j<n) (h:(i:Int)%(n:Int)=((j:Nat):Int)):L1 n j i+1<=L1 n j (i+1):=by
 exact ZEK
def Xft {i n:Nat} {Q:Prop} (y:1<=n) (z:n<=4) (a:(i:Int)%(n:Int)=ap/\0<n->Q) (b:(i:Int)%(n:Int)=((1:Nat):Int)/\1<n->Q) (c:(i:Int)%(n:Int)=((2:Nat):Int)/\2<n->Q) (d:(i:Int)%(n:Int)=((3:Nat):Int)/\3<n->Q):Q:=by
 have h:(i:Int)%(n:Int)=((i%n:Nat):Int):=by rw[Int.natCast_emod]
 have x:i%n<n:=qf _ J;rw[h] at a b c d;generalize i%n=j at a b c d x
 match j with
 |0=>exact a ⟨rfl,x⟩
 |1=>exact b ⟨rfl,x⟩
 |2=>exact c ⟨rfl,x⟩
 |3=>exact d ⟨rfl,x⟩
 |j+4=>omega
def XkF (l:bf) (n:Nat) (a:1<=n) (q:n<=4):Df prog 25 [va,aa (n:Int)] (λw=>Ec w va ds l) [] (λb:SQ=>b.vo) (λb=>((0<n->b.o0.length<=24)/\(1<n->b.o1.length<=24)/\(2<n->b.o2.length<=24)/\(3<n->b.o3.length<=24))/\∀o,o∈b.o0\/o∈b.o1\/o∈b.o2\/o∈b.o3->gG o) (λb=>[AG b.vo 40 EY<|b.vs n,AG b.q0.v 43 Opn.enc b.o0,AG b.q1.v 43 Opn.enc b.o1,AG b.q2.v 43 Opn.enc b.o2,AG b.q3.v 43 Opn.enc b.o3]):=by
 intro w c T;refine E0 func25 I T<|Cs I<|Ak I<|Cs I<|Lm I<|LW I<|CY EY sv0 n I I I U6 Xcb I I I I I I I (by simp only[mh];omega) A1<|λB=>Ak I<|Ad<|Cs I<|Ak I<|Af<|row0 43 Opn.enc none<|row0 43 Opn.enc none<|row0 43 Opn.enc none<|row0 43 Opn.enc none<|Pm [4] I ?_
 have O:∀q0 q1 q2 q3:Sv,([q0,q1,q2,q3].take n).length=n:=λq0 q1 q2 q3=>by rw[pI];exact re q
 have E:List.replicate n sv0=[sv0,sv0,sv0,sv0].take n:=by
  have e:[sv0,sv0,sv0,sv0]=List.replicate 4 sv0:=rfl;rw[e,List.take_replicate,re q]
 refine Xir (λ(i:Nat) (q0:Sv) (q1:Sv) (q2:Sv) (q3:Sv) (d:cv) (g:cv) (f:cv) (k:cv)=>[(0,va),(1,aa (n:Int)),(5,B),(6,aa (i:Int))]) (λ(i:Nat) (q0:Sv) (q1:Sv) (q2:Sv) (q3:Sv) (d:cv) (g:cv) (f:cv) (k:cv)=>St w [] [AG B 40 EY<|[q0,q1,q2,q3].take n,AG q0.v 43 Opn.enc d,AG q1.v 43 Opn.enc g,AG q2.v 43 Opn.enc f,AG q3.v 43 Opn.enc k]) (λ(i:Nat) (q0:Sv) (q1:Sv) (q2:Sv) (q3:Sv) (d:cv) (g:cv) (f:cv) (k:cv)=>i<=l.length/\i<=n*24/\(d.length<=L1 n 0 i/\g.length<=L1 n 1 i/\f.length<=L1 n 2 i/\k.length<=L1 n 3 i)/\∀o,o∈d\/o∈g\/o∈f\/o∈k->gG o) (λ(i:Nat) (q0:Sv) (q1:Sv) (q2:Sv) (q3:Sv) (d:cv) (g:cv) (f:cv) (k:cv)=>l.length-i) (0) sv0 sv0 sv0 sv0 ([]) ([]) ([]) ([]) ⟨qc _,qc _,⟨qc _,qc _,qc _,qc _⟩,λo h=>yF⟩ (Si I) (λ_ h=>by rw[<-E];exact h)<|λi q0 q1 q2 q3 d g f k S=>Ad<|Ad ?_
 obtain⟨hi,p,⟨D,G,F,K⟩,C⟩:=S;have Q:i<=96:=by have:=qy 24 q;omega
 have Z:=Ky n 0 i;have R:=Ky n 1 i;have W:=Ky n 2 i;have Y:=Ky n 3 i;have L:=QY a q (j:=0) p;have J:=QY a q (j:=1) p;have H:=QY a q (j:=2) p;have M:=QY a q (j:=3) p;have V:=O q0 q1 q2 q3;refine Cr I<|Mv 2 I<|Lq I ji<|Mv 2 I<|CB 13 I (λX=>?_)<|λX=>?_
 .refine Mv 2 I (Lq I Yz<|Mv 2 I<|Nk<|CB 18 I (λU=>?_)<|λU=>?_)
  .obtain⟨x,N⟩:=gE l i;refine Am I<|Ah<|Ks<|Af<|Xft (i:=i) a q (λhj=>?_) (λhj=>?_) (λhj=>?_)<|λhj=>?_
   .obtain⟨y,z⟩:=hj;have P:=Mn a q z y;have s:([q0,q1,q2,q3].take n)[0]?=some q0:=jr;refine LZ (rg 19) 837019575 (λt=>Ec t B EY ([q0,q1,q2,q3].take n)/\Ec t va ds l) I St.drawn (λ_ h=>⟨h.rd 0 rfl,c.keep h<|by simp[dom]⟩)<|Md 3 I<|Dq I wB<|Md 3 I<|Dq I wB<|Dq I (Aw 0 I U6 UR I (λ_ h=>h.1) I y)<|Dq I (AO 0 0 I XZ I I (λ_ h=>h.1) s I)<|Md 2 I<|Dq I (Aw i I KI Z3 I uS I I)<|Dq I (AO i 0 I G3 I I uS N I)<|MX I<|E1 (We x) I call65 Tt<|λop m=>Ai (λ_ h=>⟨h.rd 0 rfl,c.keep h<|by simp[dom]⟩)<|MX I<|As (sz:=4) [.tmp 35] I I I I I TM U7 I zeroValue43 I<|λb2=>Ai (λ_ h=>⟨h.rd 1 rfl,c.keep h<|by simp[dom]⟩)<|AQ<|MX I<|Ap TM TM MC I iF A8<|λv=>Pre.fact uC ?_
    rintro⟨r,u,rfl⟩;refine Ai yy<|Dq I (Aw 0 I U6 UR I (λ_ h=>h.1) I y)<|AQ<|KC I<|DR 0 0 ((⟨r,(d++[op]).length,u⟩:Sv)) I I UR I I I s A2 I<|AN<|Au<|Kt<|Cr I<|Lm I<|Lq I (Qi I)<|Nh I<|AE<|AQ<|Ae ?_;exact AJ ((i+1,⟨r,(d++[op]).length,u⟩,q1,q2,q3,d++[op],g,f,k)) A4 hW (Si I)<|λ_ h=>gV
   .obtain⟨y,z⟩:=hj;have P:=Mn a q z y;have s:([q0,q1,q2,q3].take n)[1]?=some q1:=jr;refine LZ (rg 19) 837019575 (λt=>Ec t B EY ([q0,q1,q2,q3].take n)/\Ec t va ds l) I St.drawn (λ_ h=>⟨h.rd 0 rfl,c.keep h<|by simp[dom]⟩)<|Md 3 I<|Dq I wB<|Md 3 I<|Dq I wB<|Dq I (Aw 1 I U6 UR I (λ_ h=>h.1) I y)<|Dq I (AO 1 0 I XZ I I (λ_ h=>h.1) s I)<|Md 2 I<|Dq I (Aw i I KI Z3 I uS I I)<|Dq I (AO i 0 I G3 I I uS N I)<|MX I<|E1 (We x) I call65 Tt<|λop m=>Ai (λ_ h=>⟨h.rd 0 rfl,c.keep h<|by simp[dom]⟩)<|MX I<|As (sz:=4) [.tmp 35] I I I I I TM U7 I zeroValue43 I<|λb4=>Ai (λ_ h=>⟨h.rd 1 rfl,c.keep h<|by simp[dom]⟩)<|BP<|MX I<|Ap TM TM MC I iF A8<|λv=>Pre.fact uC ?_
    rintro⟨r,u,rfl⟩;refine Ai yy<|Dq I (Aw 1 I U6 UR I (λ_ h=>h.1) I y)<|AQ<|KC I<|DR 1 0 ((⟨r,(g++[op]).length,u⟩:Sv)) I I UR I I I s A2 I<|AN<|Au<|Kt<|Cr I<|Lm I<|Lq I (Qi I)<|Nh I<|AE<|AQ<|Ae<|Pm [0,1] I ?_;exact AJ ((i+1,q0,⟨r,(g++[op]).length,u⟩,q2,q3,d,g++[op],f,k)) A4 hW (Si I)<|λ_ h=>gV
   .obtain⟨y,z⟩:=hj;have P:=Mn a q z y;have s:([q0,q1,q2,q3].take n)[2]?=some q2:=jr;refine LZ (rg 19) 837019575 (λt=>Ec t B EY ([q0,q1,q2,q3].take n)/\Ec t va ds l) I St.drawn (λ_ h=>⟨h.rd 0 rfl,c.keep h<|by simp[dom]⟩)<|Md 3 I<|Dq I wB<|Md 3 I<|Dq I wB<|Dq I (Aw 2 I U6 UR I (λ_ h=>h.1) I y)<|Dq I (AO 2 0 I XZ I I (λ_ h=>h.1) s I)<|Md 2 I<|Dq I (Aw i I KI Z3 I uS I I)<|Dq I (AO i 0 I G3 I I uS N I)<|MX I<|E1 (We x) I call65 Tt<|λop m=>Ai (λ_ h=>⟨h.rd 0 rfl,c.keep h<|by simp[dom]⟩)<|MX I<|As (sz:=4) [.tmp 35] I I I I I TM U7 I zeroValue43 I<|λb6=>Ai (λ_ h=>⟨h.rd 1 rfl,c.keep h<|by simp[dom]⟩)<|Cd<|MX I<|Ap TM TM MC I iF A8<|λv=>Pre.fact uC ?_
    rintro⟨r,u,rfl⟩;refine Ai yy<|Dq I (Aw 2 I U6 UR I (λ_ h=>h.1) I y)<|AQ<|KC I<|DR 2 0 ((⟨r,(f++[op]).length,u⟩:Sv)) I I UR I I I s A2 I<|AN<|Au<|Kt<|Cr I<|Lm I<|Lq I (Qi I)<|Nh I<|AE<|AQ<|Ae<|Pm [0,1,1] I ?_;exact AJ ((i+1,q0,q1,⟨r,(f++[op]).length,u⟩,q3,d,g,f++[op],k)) A4 hW (Si I)<|λ_ h=>gV
   obtain⟨y,z⟩:=hj;have P:=Mn a q z y;have s:([q0,q1,q2,q3].take n)[3]?=some q3:=jr;refine LZ (rg 19) 837019575 (λt=>Ec t B EY ([q0,q1,q2,q3].take n)/\Ec t va ds l) I St.drawn (λ_ h=>⟨h.rd 0 rfl,c.keep h<|by simp[dom]⟩)<|Md 3 I<|Dq I wB<|Md 3 I<|Dq I wB<|Dq I (Aw 3 I U6 UR I (λ_ h=>h.1) I y)<|Dq I (AO 3 0 I XZ I I (λ_ h=>h.1) s I)<|Md 2 I<|Dq I (Aw i I KI Z3 I uS I I)<|Dq I (AO i 0 I G3 I I uS N I)<|MX I<|E1 (We x) I call65 Tt<|λop m=>Ai (λ_ h=>⟨h.rd 0 rfl,c.keep h<|by simp[dom]⟩)<|MX I<|As (sz:=4) [.tmp 35] I I I I I TM U7 I zeroValue43 I<|λb8=>Ai (λ_ h=>⟨h.rd 1 rfl,c.keep h<|by simp[dom]⟩)<|B7<|MX I<|Ap TM TM MC I iF A8<|λv=>Pre.fact uC ?_
   rintro⟨r,u,rfl⟩;refine Ai yy<|Dq I (Aw 3 I U6 UR I (λ_ h=>h.1) I y)<|AQ<|KC I<|DR 3 0 ((⟨r,(k++[op]).length,u⟩:Sv)) I I UR I I I s A2 I<|AN<|Au<|Kt<|Cr I<|Lm I<|Lq I (Qi I)<|Nh I<|AE<|AQ<|Ae<|Pm [0,1,1,1] I ?_;exact AJ ((i+1,q0,q1,q2,⟨r,(k++[op]).length,u⟩,d,g,f,k++[op])) A4 hW (Si I)<|λ_ h=>gV
  exact xb
 exact Mv 5 I<|Nk xb
structure XV where
 nb:Nat
 nf:Nat
 fl:Nat
 n:Nat
 b:SQ
structure X7 (r:XV):Prop where
 n1:1<=r.n
 n4:r.n<=4
 f3:r.fl<=3
 nf1:4*(r.n+r.fl)+1<=r.nf
 nf2:r.nf<=4*(r.n+r.fl)+8
 nb1:1<=r.nb
 nb2:r.nb<=64
 len:(0<r.n->r.b.o0.length<=24)/\(1<r.n->r.b.o1.length<=24)/\(2<r.n->r.b.o2.length<=24)/\(3<r.n->r.b.o3.length<=24)
 ok:∀o,o∈r.b.o0\/o∈r.b.o1\/o∈r.b.o2\/o∈r.b.o3->gG o
abbrev SQ.H (b:SQ) (n:Nat):ci:=[AG b.vo 40 EY<|b.vs n,AG b.q0.v 43 Opn.enc b.o0,AG b.q1.v 43 Opn.enc b.o1,AG b.q2.v 43 Opn.enc b.o2,AG b.q3.v 43 Opn.enc b.o3]
abbrev TS (nb nf fl:Nat) (vo:d0):bi:=[aa (nb:Int),aa (nf:Int),aa (fl:Int),vo]
def cQ (x y z:Int) (a:ce) (n c:Nat) (w:d7):(Instr.build 27 #[(2,aa x),(1,aa y),(0,aa z),(3,.slice a n c)]).run prog w=.ok (.agg ([aa z,aa y,aa x,.slice a n c]:bi).toArray) w:=by kernel_rfl
def Lh (nb nf fl:Nat) (a:ce) (m c:Nat):∀v∈TS nb nf fl (.slice a m c),v.oneCell'=true:=λv h=>by
 simp only[TS,pj,rX,rY] at h
 rcases h with rfl|rfl|rfl|rfl<;>rfl
def SQ.zh (b:SQ) {n:Nat} (h:n<=4):(b.vs n).length=n:=by unfold SQ.vs;rw[pI];exact re h
def gO (v:Int) (l:bf):Df prog 24 [aa v,va] (λw=>Ec w va ds l) [] (λr:XV=>.agg (TS r.nb r.nf r.fl r.b.vo).toArray) (λr=>X7 r) (λr=>r.b.H r.n):=by
 intro w u i;refine E0 func24 I i<|Y I<|Z I<|Ax I I I zeroValue27<|λg=>M [aa 0,aa 0,aa 0,.slice none 0 0] I<|Nk<|Y I<|Lm I<|Z I<|E1 (IN v 1073741824 K K) I call27 Tt<|λ_ _=>Ak I<|E ?_
 obtain⟨k,q,p⟩:∃k:Nat,v%1073741824=(k:Int)/\k<1073741824:=⟨(v%1073741824).toNat,J,J⟩
 refine LH 5 (aa (k:Int)) I (by rw[q]) ?_;obtain⟨n,B⟩:∃n:Nat,n=1+k%4:=⟨_,rfl⟩
 obtain⟨f,A⟩:∃f:Nat,f=k/4%4:=⟨_,rfl⟩
 obtain⟨nf,o⟩:∃m:Nat,m=4*(n+f)+1+k/16%8:=⟨_,rfl⟩
 obtain⟨nb,s⟩:∃m:Nat,m=1+k/128%12:=⟨_,rfl⟩
 refine Cr I<|Lm I<|Lq I wB<|Lq I py<|Lm I<|Lq I xg<|Lq I wB<|Nh I<|Ak I<|E<|LH 6 (aa (n:Int)) I (congrArg (Value.int .i64)<|by rw[B];omega)<|LH 7 (aa (f:Int)) I (congrArg (Value.int .i64)<|by rw[A];omega)<|Cr I<|C 3 I<|Lq I py<|Lq I Yz<|Lq I py<|Lm I<|Lq I xg<|Lq I wB<|Lq I py<|Lm I ?_;refine Lq I xg<|Lq I wB<|Lq I py<|C 2 I<|LH 17 (aa (f:Int)) I (I)<|LH 26 (aa (nf:Int)) I (congrArg (Value.int .i64) J)<|LH 30 (aa (nb:Int)) I (congrArg (Value.int .i64) J)<|Z I<|Xt (XkF l n J J) I I I call25 I u.kp ?_;rintro b ⟨c,d⟩;refine Pw (St w []<|b.H n++[Ac g 27 [aa 0,aa 0,aa 0,.slice none 0 0]]) ?_;refine WA ?_;rintro⟨j,t,z⟩;refine Lq I (AS (TS nb nf f b.vo) I I<|λw=>(by rw[z];exact cQ _ _ _ _ _ _ _))<|Z I<|Ax I I I zeroValue27<|λC=>M [aa 0,aa 0,aa 0,.slice none 0 0] I ?_
 have a:∀v∈TS nb nf f b.vo,v.oneCell'=true:=nZ
 refine Z I<|SA Vk I a<|M (TS nb nf f b.vo) I<|Ns<|Y I<|Lm I<|Lq I xg<|Lq I wB<|Lq I vd<|Nk<|CB 38 I (λe=>?_)<|λe=>?_
 .refine Am I (Cr I<|EJ Vj I Z3 I<|Z I<|AB I I Z3 I I I (rO I)<|M (TS 64 nf f b.vo) I<|Nk<|Y I<|Lq I (Cq _ Y4 Vk 0 I I I) ?_);have x:∀v∈TS (64) nf f b.vo,v.oneCell'=true:=nZ
  refine C3<|Z I<|SA Vk I x<|M (TS (64) nf f b.vo) I<|Nk<|Al ?_;have y:X7 (⟨64,nf,f,n,b⟩:XV):=⟨by show 1<=n;omega,by show n<=4;omega,by show f<=3;omega,by show 4*(n+f)+1<=nf;omega,by show nf<=4*(n+f)+8;omega,by show 1<=64;omega,by show 64<=64;omega,c,d⟩;exact Pm [2,2,2,2,2,1] I<|CE I (AL I Y4 Vk TQ<|I)<|λ_ h=>⟨(⟨64,nf,f,n,b⟩:XV),rfl,y,h.cut⟩
 refine Ab I (Ah<|Kt<|Y I<|Lq I (Cq _ Y4 Vk 0 I I I) ?_);have x:∀v∈TS nb nf f b.vo,v.oneCell'=true:=nZ
 refine C3<|Z I<|SA Vk I x<|M (TS nb nf f b.vo) I<|Nk<|Al ?_;have y:X7 (⟨nb,nf,f,n,b⟩:XV):=⟨by show 1<=n;omega,by show n<=4;omega,by show f<=3;omega,by show 4*(n+f)+1<=nf;omega,by show nf<=4*(n+f)+8;omega,by show 1<=nb;omega,by show nb<=64;omega,c,d⟩;exact Pm [2,2,2,2,2,1] I<|CE I (AL I Y4 Vk TQ<|I)<|λ_ h=>⟨(⟨nb,nf,f,n,b⟩:XV),rfl,y,h.cut⟩
def Xlo {m:HM} (k:O9 z m B):Df prog 47 [BM z.bH] Tr (z.H m) (λ_:Unit=>am m.sq) Tr (λ_=>z.H m):=by
 intro w y x;refine Ey func47 I x ?_;exact Y I<|A I<|Y I<|C 2 I<|EJ Cz I Qb I<|Lo Xa 0 I xj
def Pr {m:HM} (k:O9 z m B):Df prog 19 [BM z.bH] Tr (z.H m) (λ_:Unit=>BM z.x.bh) Tr (λ_=>z.H m):=by
 intro w a y;refine Ey func19 I y ?_;exact Y I<|A I<|Y I<|C 2 I<|EJ Cz I Wi I<|Lo Vs 0 I xj
def Th (l:List O1) (x:l.length<=65536):Df prog 45 [va] (λw=>Ec w va O1.enc l) [] (λv:d0=>v) Tr (λv=>[AG v 71 O1.enc l]):=by
 intro w z d;obtain⟨a,c,rfl⟩:=FK z;refine E0 func45 I d<|Y I<|A I<|E<|Y I<|r I<|Lq I (Hq I Wh I I)<|Nk<|Pre.PY 4 I (λx=>?_)<|λx=>?_
 .rw[ti] at x;subst x;have y:=FQ z;subst y;exact Am I<|Y I<|A I<|s<|Ag<|row0 71 O1.enc none vI
 refine Ab I (Ah<|Kt<|Y I<|Z I<|As (sz:=22) [] I I I I I Wh sizeOf71 I zeroValue71 I<|λb=>Sj O1.enc [] I I<|r I<|Z I<|Ap Wh Wh TK I z.kp A8<|λv=>A I<|s ?_);rw[qU];exact uc
def gP {m:HM} (k:O9 z m B):Df prog 15 [BM z.bH] Tr (z.H m) (λv:d0=>v) Tr (λv=>AG v 71 O1.enc m.ev::z.H m):=by
 intro w y x;refine Ey func15 I x ?_;exact Y I<|A I<|Y I<|C 2 I<|EJ Cz I ZV I<|Lo isAgg34 0 I<|Z I<|AX (Th m.ev (by have:=k.ev;have:=k.lh.ok.b9;omega)) I I I call45 I RF jO
def XkG {m:HM} (k:O9 z m B):Df prog 12 [BM z.bH] Tr (z.H m) (λ_:Unit=>.bool<|m.cs.all Cl.ended) Tr (λ_=>z.H m):=by
 intro w v q;have r:=k.fV;have u:m.T.n<=8:=xY;have s:=k.tn;refine Ey func12 I q<|Y I<|Ak I<|E<|ZGk ?_;refine Bm (λ(i:Nat)=>[(0,BM z.bH),(10,z.vT),(11,aa (z.tks.length:Int)),(12,aa (i:Int))]) (λ(i:Nat)=>St w (dom<|z.H m)<|z.H m) (λ(i:Nat)=>i<=z.tks.length/\∀c∈m.cs.take i,c.ended=true) (λ(i:Nat)=>z.tks.length-i) (0) ⟨qc _,A3⟩ (Si I) Ih<|λi p=>E ?_
 obtain⟨hi,x⟩:=p;refine Cr I<|Lq I (Ql I)<|Ns<|CB 13 I (λo=>?_)<|λo=>?_
 .obtain⟨a,j⟩:=gE z.tks i;rcases k.tk j with⟨c,l,rfl⟩|⟨b,C,t,rfl⟩|⟨A,rfl⟩
  .have g:=k.at l;refine Am I<|Ah<|Ks<|Af<|Y I<|Lq I Zu<|Lq I (AO i 0 I JV I I ue j I)<|Ak I<|Y I<|Lm I<|Lq rfl wQ (Mv 4 I<|Ak I<|Y I<|Mv 3 I<|Z I<|Ee [] (NO k l) I call37 Tt<|λ_ _=>Pw (St _ _<|HC.H z m)<|Mv 2 I<|Nk<|CB 26 I (λf=>?_)<|λf=>?_)
   .exact Am I<|Y I<|Ak I<|Al<|AA<|Ag<|Ag<|AA<|Ag<|Av I I<|λ_ h=>⟨(),congrArg Eb (by symm;rw[tM];exact⟨c.m,ry g,by rw[f];decide⟩),T0,h⟩
   refine Tm ?_
   exact AJ (i+1) J ⟨J,λd hd=>by
    rw[sH,g] at hd;rcases rB.1 hd with e|e
    .exact x d e
    simp at e;rw[e];exact f⟩ (Si I) Jx
  .exact XdG
  exact XdG
 exact Ab I<|AP<|Aa<|Aa<|Ar<|Kt<|Y I<|Ak I<|Al<|Av I I<|λ_ h=>⟨(),congrArg Eb (by symm;rw[rT];intro c l;exact x c<|by rw[pZ J];exact l),T0,h⟩
def Xjg {w0 w:d7} {D:bm} {H:ci} {b:SQ} (s:St w0 D H w) (h:∀e∈b.H n,e∈H):Y5 w b.vo (b.vs n) (b.ops n):=by
 have x:∀e∈b.H n,e.at w:=λe a=>s.hp.holds e<|h e a
 refine⟨BA<|x (AG b.vo 40 EY<|b.vs n) A3,by unfold SQ.vs SQ.ops;rw[pI,pI];rfl,λi s l y z=>?_⟩;unfold SQ.vs at y;unfold SQ.ops at z
 have hi:i<n:=by
  have:=(qp.1 y).1;rw[pI] at this;omega
 rw[ud hi] at y z
 match i with
 |0=>cases y;cases z;exact BA (x (AG b.q0.v 43 Opn.enc b.o0) A3)
 |1=>cases y;cases z;exact BA (x (AG b.q1.v 43 Opn.enc b.o1) A3)
 |2=>cases y;cases z;exact BA (x (AG b.q2.v 43 Opn.enc b.o2) A3)
 |3=>cases y;cases z;exact BA (x (AG b.q3.v 43 Opn.enc b.o3) A3)
 |i+4=>simp at y
def SQ.mem {b:SQ} (h:l∈b.ops n):l=b.o0\/l=b.o1\/l=b.o2\/l=b.o3:=by
 have:=pF h;simpa using this
def SQ.zT (b:SQ) {n:Nat} (h:n<=4):(b.ops n).length=n:=by unfold SQ.ops;rw[pI];exact re h
structure ShR where
 z:HC
 r:XV
abbrev ShR.m (s:ShR):HM:=WR s.r.nb s.r.nf s.r.fl<|s.r.b.ops s.r.n
def SQ.Xib {b:SQ} (h:l∈b.ops n):∃j,j<n/\((j=0/\l=b.o0)\/(j=1/\l=b.o1)\/(j=2/\l=b.o2)\/(j=3/\l=b.o3)):=by
 obtain⟨j,hj⟩:=tj.1 h;unfold SQ.ops at hj
 have hi:j<n:=by
  have:=(qp.1 hj).1;rw[pI] at this;omega
 rw[ud hi] at hj;refine⟨j,hi,?_⟩
 match j with
 |0=>cases hj;exact yD
 |1=>cases hj;exact .inr yD
 |2=>cases hj;exact .inr (.inr yD)
 |3=>cases hj;exact .inr (.inr<|.inr ⟨rfl,rfl⟩)
 |j+4=>simp at hj
def X7.each {r:XV} (h:X7 r) {l:cv} (d:l∈r.b.ops r.n):l.length<=24/\∀o∈l,1<=o.kind/\o.kind<=4/\gI o:=by
 have x:=h.len;obtain⟨j,hj,e⟩:=SQ.Xib d
 have z:∀o∈l,gG o:=λo y=>by
  rcases e with⟨_,e⟩|⟨_,e⟩|⟨_,e⟩|⟨_,e⟩
  .exact h.ok o<|.inl<|e▸y
  .exact h.ok o<|.inr<|.inl<|e▸y
  .exact h.ok o<|.inr<|.inr<|.inl<|e▸y
  exact h.ok o<|.inr<|.inr<|.inr<|e▸y
 refine⟨?_,λo y=>?_⟩
 .rcases e with⟨rfl,e⟩|⟨rfl,e⟩|⟨rfl,e⟩|⟨rfl,e⟩
  .rw[e];exact x.1 hj
  .rw[e];exact x.2.1 hj
  .rw[e];exact x.2.2.1 hj
  rw[e];exact x.2.2.2 hj
 obtain⟨c,a,f⟩:=z o y;exact⟨c,a,J,J⟩
def Xhi (n:Nat) (g:n<=100) (l:bf) (c:l.length*8<=140737488351232):Df prog 26 [aa (n:Int),va] (λw=>Ec w va ds l) [] (λr:d0×bf=>r.1) Tr (λr=>[AG r.1 3 ds r.2]):=by
 intro w d z;refine E0 func26 I z<|Y I<|A I<|Y I<|A I<|E<|Y I<|A I<|YA ?_;refine Fm (λ(i:Nat) (v:d0) (L:bf)=>[(0,aa (n:Int)),(1,va),(5,v),(6,aa (i:Int))]) (λ(i:Nat) (v:d0) (L:bf)=>St w [] [AG v 3 ds L]) (λ(i:Nat) (v:d0) (L:bf)=>i<=n/\L.length=i) (λ(i:Nat) (v:d0) (L:bf)=>n-i) (0) C0 ([]) ⟨qc _,rfl⟩ (Si I) Ih<|λi v L y=>E<|E ?_
 obtain⟨hi,a⟩:=y;refine Cr I<|C 3 I<|Nk<|CB 9 I (λb=>?_)<|λb=>?_
 .refine Am I (Ah<|Ks<|Af<|Cr I<|C 2 I<|Lq I wB<|Lm I<|Lq I wB<|Lq I py<|Lq I Yz<|Lq I py<|Lq I Yz<|Lq I py<|Z I<|As (sz:=1) [.tmp 21] I I I I I KI Z3 I zeroValue3 I<|λf=>AD<|Z I<|Ap KI KI CD I (λ_ h=>AR kj ds [(24+32*((i:Int)%27+432*(1+(i:Int)%3)))] I I) A8<|λe=>AD<|m<|Nh I<|AE<|Po ?_);exact AJ ((i+1,e,L++[(24+32*((i:Int)%27+432*(1+(i:Int)%3)))])) A4 ⟨A4,by dsimp only;rw[pK,a];rfl⟩ (Si I) Jx
 exact Ab I<|AP<|Aa<|Aa<|Ar<|Kt<|Y I<|C 2 I<|Z I<|B0 I I I KI KI CD I I I I I d.kp (by simp only[jh];omega) J<|λx=>A I<|s<|Av I I<|λ_ h=>⟨(x,L++l),rfl,T0,h⟩
def Xfu (v C:Int) (l:bf) (E:l.length*8<=140737488351232):Df prog 32 [aa v,aa C,va] (λw=>Ec w va ds l) [] (λs:ShR=>.tuple #[BM s.z.bH,.agg (TS s.r.nb s.r.nf s.r.fl s.r.b.vo).toArray]) (λs=>X7 s.r/\O9 s.z s.m 0) (λs=>s.r.b.H s.r.n++HC.H s.z s.m):=by
 intro w V Q;refine E0 func32 I Q<|Y I<|Nh I<|Z I<|Ax I I I zeroValue27<|λa=>Ce [aa 0,aa 0,aa 0,.slice none 0 0] I<|Nk<|Y I<|Mv 2 I<|Z I<|E1 (IN C 70 A2 A2) I call27 Tt<|λ_ _=>r I ?_
 obtain⟨M,F,K⟩:∃k:Nat,C%70=(k:Int)/\k<70:=⟨(C%70).toNat,A1,A1⟩
 refine LH 13 (aa (M:Int)) I (by rw[F])<|Z I<|Xt (Xhi M A1 l E) I I I call26 I V.kp ?_;rintro⟨N,G⟩ _;refine Pw (St w []<|AG N 3 ds G::[Ac a 27 [aa 0,aa 0,aa 0,.slice none 0 0]]) ?_;refine Z I<|Xt (gO v G) I I I call24 I ur ?_;rintro c P;obtain⟨nb,nf,f,n,b⟩:=c;refine Pw (St w []<|b.H n++[AG N 3 ds G,Ac a 27 [aa 0,aa 0,aa 0,.slice none 0 0]]) ?_;refine WA ?_;rintro⟨R,U,p⟩;have x:=P;obtain⟨J,B,t,i,j,y,A,_,_⟩:=P;dsimp only at J B t i j y A;refine Z I<|Ax I I I zeroValue27<|λu=>Ce [aa 0,aa 0,aa 0,.slice none 0 0] I ?_
 have g:∀v∈TS nb nf f b.vo,v.oneCell'=true:=by rw[p];exact Lh _ _ _ _ _ _
 refine Z I<|SA Vk I g<|Ce (TS nb nf f b.vo) I<|Nk<|Y I<|Lq I (Cq _ Y4 Vk 0 I I I)<|C3<|m<|Pm [1,1,1,1,1] I ?_;have S:=b.zT B;refine Pre.world (St w []<|(b.H n++[Ac u 27<|TS nb nf f b.vo,Ac a 27 [aa 0,aa 0,aa 0,.slice none 0 0]])++[]) (λ_ h=>by rw[sG];exact h) ?_;refine Z I<|J8 (b.H n++[Ac u 27<|TS nb nf f b.vo,Ac a 27 [aa 0,aa 0,aa 0,.slice none 0 0]]) (HA:=[]) (XcZ (vs:=b.vs n) (ls:=b.ops n) (nb:=nb) (nf:=nf) (fl:=f) y A1 t A1 A1 A1 A1 (λq D=>(x.each D).1)<|λq D o O=>⟨((x.each D).2 o O).1,((x.each D).2 o O).2.1⟩) I I I call18 I (λ_ h=>Xjg h<|λe T=>qh _<|qh _ T)<|λz L=>Pw (St w []<|(b.H n++[Ac u 27<|TS nb nf f b.vo,Ac a 27 [aa 0,aa 0,aa 0,.slice none 0 0]])++HC.H z (WR nb nf f<|b.ops n)) ?_
 refine Mv 4 I<|Ak I<|Ad<|Y I<|Mv 3 I<|Sb 24 false I (I)<|r I<|Lq I (E3 I underlying24 I I)<|Mv 2 I<|Sb 28 false I (I)<|r I<|Z I<|Ee (b.H n++[Ac u 27<|TS nb nf f b.vo,Ac a 27 [aa 0,aa 0,aa 0,.slice none 0 0]]) (Pr L) I call19 Tt<|λ_ _=>Pw (St w []<|(b.H n++[Ac u 27<|TS nb nf f b.vo,Ac a 27 [aa 0,aa 0,aa 0,.slice none 0 0]])++HC.H z (WR nb nf f<|b.ops n)) ?_
 refine Lq I (E3 I underlying47 I I)<|Lq I (Qz I)<|Nk<|Sb 32 false I (I)<|Ab I<|Ah<|Ks<|LZ (rg 4) 54 _ I St.drawn Ih<|Dm I<|Dq I (Cq _ Y4 Vk 5 I I I)<|Sz I ?_;have d:∀v∈TS nb nf f b.vo,v.oneCell'=true:=by rw[p];exact Lh _ _ _ _ _ _
 exact C3<|KC I<|SA Vk I d<|Ce (TS nb nf f b.vo) I<|AN<|Kt<|Al<|C1 I (id I) (AL I Y4 Vk uP<|I)<|λ_ h=>⟨(⟨z,⟨nb,nf,f,n,b⟩⟩:ShR),rfl,⟨x,L⟩,(h.sublist<|.cons _<|(tG<|b.H n).append<|.cons _<|tG<|HC.H z<|WR nb nf f<|b.ops n)⟩
def Ps {m:Ms} (h:OD m):OI m.key=true/\((m.kind=1/\m.by'=0/\Qd m.val=true)\/(m.kind=2/\m.by'=0/\m.val=Na 16)\/(m.kind=3/\m.val=Na 16)):=by
 unfold OD at h;rw[qW] at h;refine⟨h.1,?_⟩;have x:=h.2;split at x
 .rw[qW,rA] at x;exact .inl ⟨Yo,x.2,x.1⟩
 split at x
 .rw[qW,rA,rA] at x;exact .inr<|.inl ⟨Yo,x⟩
 split at x
 .exact .inr<|.inr ⟨Yo,sW x⟩
 cases x
def cR {m:Ms} (h:OD m):OI m.key=true:=by unfold OD at h;rw[qW] at h;exact h.1
def Xhj {ks:bf} {ps:List<|c3} (h:Tq ks ps) {i:Nat} {x:Int} (z:ks[i]?=some x):SG ks x=some i:=by
 unfold Tq at h;simp only[qW] at h;have a:=h.2.1;rw[rT] at a;have y:=a i<|qm.2 (qp.1 z).1;unfold Vo at y;rw[z] at y;simp only[qW,rA] at y;exact y.2.2
def gR {l:ct} (h:Uc l):∀e∈l,OI e.key=true/\Qd e.val=true:=λe x=>by
 obtain⟨i,hi⟩:=tj.1 x
 have:=Iy hi<|TZ h hi
 exact⟨this.1,this.2.1⟩
def ZK (d:Nd):Int:=if d.leaf=true then lby d.es else QC d.msgs
def gS {d:Nd} (h:BJ d):ZK d<=if d.leaf=true then 248 else 205:=by
 unfold ZK;cases hl:d.leaf with
 |true=>rw[pN rfl,pN rfl];exact (Fi h hl).2.2.2.2
 |false=>rw[pQ K,pQ K];exact (Cx h hl).2.2.2.1
def Kz {m:Ms} (hm:OD m):Df prog 238 [.agg m.c.toArray] Tr [] (λ_:Unit=>.bool true) Tr (λ_=>[]):=by
 intro w e d;obtain⟨y,a⟩:=Ps hm;refine E0 func238 I d ?_;refine Y I<|Z I<|AT I I I I<|λf=>M m.c I<|A I<|E<|Y I<|EJ BR I Z3 I<|Lo G3 0 I<|C 2 I<|Sb 6 false I yh<|EJ BR I Z3 I<|Lo G3 0 I<|Lq I vd<|C 2 I<|Sb 11 false I yh<|EJ BR I MW I<|Lq I xy<|Z I<|E1 (FY m.key) I call60 Tt<|λ_ _=>Lq I (Qt I)<|Lq I (Qz I)<|Nk<|Sb 16 false I yh<|Ab I<|Ah<|Ks<|Y I<|EJ BR I Z3 I<|Lo G3 0 I<|C 2 I ?_
 rcases a with⟨b,z,x⟩|⟨b,z,x⟩|⟨b,x⟩
 .refine Sb 20 true I eh (EJ BR I O6 I<|Lq I wF<|Z I<|E1 (Is m.val) I call61 Tt<|λ_ _=>Lq I (Qt I)<|C 2 I<|Sb 26 false I eh<|EJ BR I Z3 I<|Lo G3 0 I<|C 2 I<|Sb 30 false I eh<|C 6 I<|Nk<|Ab I<|Ah<|Kt<|Y I<|EJ BR I Z3 I<|Lo G3 0 I<|C 2 I ?_);exact ZFL
 .refine xV ?_;exact EJ BR I Z3 I<|Lo G3 0 I<|C 2 I ZFL
 refine xV ?_;exact EJ BR I Z3 I<|Lo G3 0 I<|C 2 I<|Sb 40 true I eh<|C 4 I XdS
def XeH {m:Ms} (hm:OD m):Df prog 239 [.agg m.c.toArray] Tr [] (λ_:Unit=>aa<|Qq m) Tr (λ_=>[]):=by
 intro w g b;obtain⟨e,d⟩:=Ps hm;refine E0 func239 I b<|Y I<|Z I<|AT I I I I<|λi=>M m.c I<|A I<|E<|Y I<|Lq I xT<|Z I<|E1 (Kz hm) I call238 Tt<|λ_ _=>Lq I (Qt I)<|Nk<|Ab I<|Ah<|Ks<|Y I<|EJ BR I Z3 I<|Lo G3 0 I<|Nk<|Af<|Y I<|dW ?_
 have a:=J3 hm;have z:=J4 hm;refine CB 8 I (λx=>?_)<|λx=>?_
 .have f:=z x;exact Am I<|Y I<|EJ BR I MW I<|EJ Pn I Z3 I<|Lo G3 0 I<|Lq I py<|EJ BR I O6 I<|EJ VX I Z3 I<|Lq I (Aj I G3 I uP<|Ms.fZ _)<|Lq I py<|A I<|s<|AA<|Ag<|Av I I<|λ_ h=>⟨(),congrArg Ei (by unfold Qq;rw[pN hm,pN x];omega),T0,h.oS⟩
 refine Ab I (Y I<|Lq I (Qe I)<|A I<|CB 18 I (λy=>?_)<|λy=>?_)
 .exact Am I<|Y I<|EJ BR I MW I<|EJ Pn I Z3 I<|Lo G3 0 I<|Lq I py<|A I<|s<|AA<|Ag<|Av I I<|λ_ h=>⟨(),congrArg Ei (by unfold Qq;rw[pN hm,pQ x,pN y];omega),T0,h.oS⟩
 exact Ab I<|Ah<|Au<|Kt<|Y I<|EJ BR I MW I<|EJ Pn I Z3 I<|Lo G3 0 I<|Lq I py<|A I<|s<|Av I I<|λ_ h=>⟨(),congrArg Ei (by unfold Qq;rw[pN hm,pQ x,pQ y];omega),T0,h.oS⟩
def Xfi (l:cp) (o:Bt Ms.key l) (f:∀m∈l,OD m=true) (r:l.length<=60000):Df prog 169 [va] (λw=>Ec w va Ms.enc l) [] (λ_:Unit=>.bool true) Tr (λ_=>[]):=by
 intro w z j;refine E0 func169 I j<|dX ?_;refine Bm (λ(i:Nat)=>[(0,va),(3,aa (i:Int))]) (λ(i:Nat)=>St w [] []) (λ(i:Nat)=>i<=l.length) (λ(i:Nat)=>l.length-i) (0) (qc _) (Si I) Ih<|λi hi=>E<|Y I<|C 2 I<|Lq I (AM I BH I z.kp)<|YD ?_
 refine CB 7 I (λn=>?_)<|λn=>?_
 .obtain⟨x,d⟩:=gE l i;have a:=f x<|ry d
  have e:0<i->∃y,l[i-1]?=some y/\Bs y.key (x.key)<0:=λq=>by
   obtain⟨y,g⟩:=gE l<|i-1;exact⟨y,g,CV o (i-1) i y x J g d⟩
  refine Am I<|Ah<|Ks<|Af<|E<|LZ (rg 25) 836828256321 _ I St.drawn Ih<|Md 2 I<|Dq I iY<|Dq I (Bc i I Ck Bi I I z.kp d)<|MX I<|E1 (Kz a) I call238 Tt<|λ_ _=>Ai Ih<|Md 2 I<|Sb 16 false I (I)<|Dm I<|Dq I vd<|Dm I<|CB 19 I (λk=>?_)<|λk=>?_
  .obtain⟨y,b,p⟩:=e J;refine Md 2 I<|Dq I yw<|Dq I (Aw (i-1) I BH Bi I z.kp I J)<|Ht BR I MW I<|Dq I (BK y.key.c (i-1) 2 I OO MW I I z.kp b K Wq)<|Md 2 I<|Dq I iY<|Ht BR I MW I<|Dq I (BK x.key.c i 2 I OO MW I I z.kp d K Wq)<|KC I<|E1 (JS y.key x.key (cR<|f y<|ry b)<|cR a) I call62 Tt<|λ_ _=>KC I<|OC I I (Qg I)<|KC I<|OC I I (Qy I)<|KC I<|OC I I (Qz I)<|AN<|Kt<|Sf 34 I J<|YM ?_
   exact vV
  refine Md 13 I (zS ?_);exact vV
 exact gY
def Xfj (l:ct) (o:Dl l) (g:∀e∈l,OI e.key=true/\Qd e.val=true) (r:l.length<=60000):Df prog 21 [va] (λw=>Ec w va En.enc l) [] (λ_:Unit=>.bool true) Tr (λ_=>[]):=by
 intro w z k;refine E0 func21 I k<|dX ?_;refine Bm (λ(i:Nat)=>[(0,va),(3,aa (i:Int))]) (λ(i:Nat)=>St w [] []) (λ(i:Nat)=>i<=l.length) (λ(i:Nat)=>l.length-i) (0) (qc _) (Si I) Ih<|λi hi=>E<|Y I<|C 2 I<|Lq I (AM I O8 I z.kp)<|YD ?_
 refine CB 7 I (λn=>?_)<|λn=>?_
 .obtain⟨x,d⟩:=gE l i;have a:=g x<|ry d
  have f:0<i->∃y,l[i-1]?=some y/\Bs y.key (x.key)<0:=λq=>by
   obtain⟨y,j⟩:=gE l<|i-1;exact⟨y,j,CV o (i-1) i y x J j d⟩
  refine Am I<|Ah<|Ks<|Af<|E<|LZ (rg 35) 45090157930322697 _ I St.drawn Ih<|Md 2 I<|Dq I iP<|Ht Rj I MW I<|Dq I ZFp<|MX I<|E1 (FY x.key) I call60 Tt<|λ_ _=>Ai Ih<|Md 2 I<|Sb 17 false I (by rw[a.1];rfl)<|Md 2 I<|Dq I iP<|Ht Rj I O6 I<|Dq I (BK x.val.c i 9 I Tz O6 I I z.kp d K yO)<|MX I<|E1 (Is x.val) I call61 Tt<|λ_ _=>Ai Ih<|Md 3 I<|Sb 26 false I (by rw[a.2];rfl)<|Dm I<|Dq I vd<|Dm I ?_
  refine CB 29 I (λm=>?_)<|λm=>?_
  .obtain⟨y,b,p⟩:=f J;refine Md 2 I<|Dq I yw<|Dq I (Aw (i-1) I O8 Qc I z.kp I J)<|Ht Rj I MW I<|Dq I (BK y.key.c (i-1) 0 I OO MW I I z.kp b K aP)<|Md 2 I<|Dq I iP<|Ht Rj I MW I<|Dq I ZFp<|MX I<|E1 (JS y.key x.key (g y<|ry b).1 a.1) I call62 Tt<|λ_ _=>Ai Ih<|Dq I (Qg I)<|KC I<|OC I I (Qy I)<|KC I<|OC I I (Qz I)<|AN<|Kt<|Sf 44 I J<|YM ?_
   exact vV
  refine Md 13 I (zS ?_);exact vV
 exact gY
def Q0 (l:cp) (c:∀m∈l,OD m=true) (k:l.length<=60000):Df prog 171 [va] (λw=>Ec w va Ms.enc l) [] (λ_:Unit=>aa<|QC l) Tr (λ_=>[]):=by
 intro w b f;refine E0 func171 I f<|Y I<|A I<|dX ?_;refine Bm (λ(i:Nat)=>[(0,va),(3,aa<|QC<|l.take i),(4,aa (i:Int))]) (λ(i:Nat)=>St w [] []) (λ(i:Nat)=>i<=l.length) (λ(i:Nat)=>l.length-i) (0) (qc _) (Si I) Ih<|λi hi=>E<|Y I<|C 2 I<|Lq I (AM I BH I b.kp)<|YD ?_
 refine CB 8 I (λd=>?_)<|λd=>?_
 .obtain⟨x,a⟩:=gE l i;have z:=Se a;have g:=T3<|l.take i;have e:=tt i l;have j:=KW x;refine Am I<|Ah<|Ks<|Af<|Cr I<|C 3 I<|Lq I (Aw i I BH Bi I b.kp I I)<|Lq I (Bc i I Ck Bi I I b.kp a)<|Z I<|E1 (XeH<|c x<|ry a) I call239 Tt<|λ_ _=>Lq I py<|Nh I<|AE<|Po ?_
  exact AJ (i+1) J J (Sub.cons I<|Sub.RJ I U8<|Si I) Jx
 have y:l.take i=l:=pZ J;rw[y];exact mD
def Q1 (l:ct) (j:∀e∈l,e.Bd) (p:l.length<=60000):Df prog 170 [va] (λw=>Ec w va En.enc l) [] (λ_:Unit=>aa<|lby l) Tr (λ_=>[]):=by
 intro w a m;refine E0 func170 I m<|Y I<|A I<|dX ?_;refine Bm (λ(i:Nat)=>[(0,va),(3,aa<|lby<|l.take i),(4,aa (i:Int))]) (λ(i:Nat)=>St w [] []) (λ(i:Nat)=>i<=l.length) (λ(i:Nat)=>l.length-i) (0) (qc _) (Si I) Ih<|λi hi=>E<|Y I<|C 2 I<|Lq I (AM I O8 I a.kp)<|YD ?_
 refine CB 8 I (λo=>?_)<|λo=>?_
 .obtain⟨x,b⟩:=gE l i;have g:=M6 b;have d:=P5 j i;have f:=j x<|ry b;have c:S9 x=2+x.key.n+x.val.n:=rfl;have k : -2000*(i:Int)<=lby (l.take i)/\lby (l.take i)<=2002*(i:Int):=d;unfold En.Bd at f;refine Am I<|Ah<|Ks<|Af<|LZ (rg 17) 114791256 _ I St.drawn Ih<|Dm I<|Dq I py<|Md 2 I<|Dq I oG<|Ht Rj I MW I<|Ht Pn I Z3 I<|Dq I (AO i 0 I G3 I I a.kp b I)<|Dq I py<|Md 2 I<|Dq I oG<|Ht Rj I O6 I<|Ht VX I Z3 I<|Dq I (AO i 9 I G3 I I (λx h=>Ec.keep a h A3) b<|XbZ x)<|KC I<|OC I I py<|KC I<|OC I I uW<|AN<|Po ?_;exact AJ (i+1) J J (Sub.cons I<|Sub.RJ I (congrArg (λz=>aa z)<|by rw[g,c];omega)<|Si I) Jx
 have y:l.take i=l:=pZ J;rw[y];exact mD
def IP (l:bf) (t:Int) (g:l.length<=65536):Df prog 73 [va,aa t] (λw=>Ec w va ds l) [] (λ_:Unit=>aa<|io<|SG l t) Tr (λ_=>[]):=by
 intro w c f;refine E0 func73 I f<|dX ?_;refine Bm (λ(i:Nat)=>[(0,va),(1,aa t),(5,aa (i:Int))]) (λ(i:Nat)=>St w [] []) (λ(i:Nat)=>i<=l.length/\∀z∈l.take i,decide (z=t)=false) (λ(i:Nat)=>l.length-i) (0) ⟨qc _,A3⟩ (Si I) Ih<|λi d=>E<|E ?_
 obtain⟨hi,y⟩:=d;refine Cr I<|C 2 I<|Lq I ji<|Lq I (Ql I)<|Nk<|CB 9 I (λe=>?_)<|λe=>?_
 .obtain⟨x,b⟩:=gE l i;refine Am I<|Ah<|Ks<|Af<|Y I<|C 2 I<|Lq I vg<|Lq I (AO i 0 I G3 I I c.kp b I)<|C 2 I<|Nk<|CB 17 I (λa=>?_)<|λa=>?_
  .exact Am I<|Y I<|r I<|A I<|s<|AA<|Ag<|Ag<|AA<|Ag<|Av I I<|λ_ h=>⟨(),congrArg Ei (by unfold SG;rw[Db b (sT a) y];rfl),T0,h⟩
  refine YM ?_;exact AJ (i+1) J ⟨J,Fb y b<|sS a⟩ (Si I) Jx
 exact Ab I<|AP<|Aa<|Aa<|Ar<|Kt<|Y I<|A I<|s<|Av I I<|λ_ h=>⟨(),congrArg Ei (by rw[pZ J] at y;unfold SG;rw[DG y];rfl),T0,h⟩
def Tl {m g:d0} (ks:bf) (ps:List<|c3) (n:Tq ks ps) (r:Bt id ps):Df prog 168 [m,g] (λw=>Ec w m ds ks/\Ec w g (Kv.enc 8) ps) [] (λ_:Unit=>.bool true) Tr (λ_=>[]):=by
 intro w s p;obtain⟨z,a⟩:=s;obtain⟨⟨v,u,kp⟩,l,f⟩:=ND n;refine E0 func168 I p ?_;refine Y I<|A I<|E<|Y I<|Lm I<|Lq I (AM I KI I z.kp)<|C 2 I<|Sb 10 false I lS<|Lm I<|Lq I (AM I KI I z.kp)<|Lq I vd<|C 2 I<|Sb 15 false I lS<|Lm I<|Lq I (AM I CZ I a.kp)<|Lm I<|Lq I (AM I KI I z.kp)<|Lq I yw<|C 2 I<|Nk<|Sb 22 false I lS ?_;refine Ab I<|Ah<|Ks<|zF ?_;refine Bm (λ(i:Nat)=>[(0,m),(1,g),(5,aa (i:Int))]) (λ(i:Nat)=>St w [] []) (λ(i:Nat)=>i<=ks.length) (λ(i:Nat)=>ks.length-i) (0) (qc _) (Si I) Ih<|λi hi=>E<|Y I<|C 2 I<|Lq I (AM I KI I z.kp)<|YD ?_
 refine CB 26 I (λj=>?_)<|λj=>?_
 .obtain⟨x,b⟩:=gE ks i;have d:=l x<|ry b;have c:=Xhj n b;refine Am I<|Ah<|Ks<|Af<|Y I<|C 2 I<|Lq I vk<|Lq I vN<|C 2 I<|Sb 34 false I lq<|C 2 I<|Lq I vk<|Lq I vN<|C 3 I<|Sb 41 false I lq<|C 3 I<|Lq I vk ?_;refine Lq I vN<|Z I<|E1 (IP ks x J) I call73 z.kp<|λ_ _=>Lm I<|C 2 I<|Nk<|Sb 50 false I lq<|YM ?_
  exact vV
 refine Ab I (AP<|Aa<|Aa<|Ar<|Ks<|zF ?_);refine Bm (λ(i:Nat)=>[(1,g),(6,aa (i:Int))]) (λ(i:Nat)=>St w [] []) (λ(i:Nat)=>i<=ps.length) (λ(i:Nat)=>ps.length-i) (0) (qc _) (Si I) Ih<|λi hi=>E<|Y I<|C 2 I<|Lq I (AM I CZ I a.kp)<|YD ?_
 refine CB 54 I (λj=>?_)<|λj=>?_
 .obtain⟨x,b⟩:=gE ps i;have d:=f x<|ry b
  have k:0<i->∃y,ps[i-1]?=some y/\Bs y (x)<0:=λA=>by
   obtain⟨y,o⟩:=gE ps<|i-1;exact⟨y,o,CV r (i-1) i y x J o b⟩
  refine Am I<|Ah<|Ks<|Af<|E<|LZ (rg 23) 92980917441 _ I St.drawn Ih<|Md 2 I<|Dq I vP<|Dq I oH<|MX I<|E1 (FY x) I call60 Tt<|λ_ _=>Ai Ih<|Md 2 I<|Sb 63 false I Y9<|Dm I<|Dq I vd<|Dm I<|CB 66 I (λq=>?_)<|λq=>?_
  .obtain⟨y,e,t⟩:=k J;refine Md 2 I<|Dq I yw<|Dq I (Aw (i-1) I CZ MW I a.kp I J)<|Dq I (Bc (i-1) I OO MW I I a.kp e)<|Md 2 I<|Dq I vP<|Dq I oH<|KC I<|E1 (JS y x (f y<|ry e) d) I call62 Tt<|λ_ _=>KC I<|OC I I (Qg I)<|KC I<|OC I I (Qy I)<|KC I<|OC I I (Qz I)<|AN<|Kt<|Sf 79 I J<|YM ?_
   exact vV
  refine Md 11 I (zS ?_);exact vV
 exact gY
def Xfk (nv:NV) (b:BJ nv.d) (t:nv.d.Sm 50000):Df prog 118 [.agg nv.c.toArray] (λw=>OE w nv) [] (λ_:Unit=>.bool true) Tr (λ_=>[]):=by
 intro w x r;obtain⟨E,A,D,C⟩:=id t;refine E0 func118 I r<|Y I<|Z I<|AT I I I I<|λB=>M nv.c I<|Ak I<|Ad<|Y I<|EJ Bj I Z4 I<|Lo G4 0 I<|Nk<|Pre.PY 4 I (λy=>?_)<|λy=>?_
 .obtain⟨g,a,hm0,f,_⟩:=Fi b y;exact Am I<|Y I<|EJ Bj I RQ I<|Lo UN 0 I<|Z I<|E1 (Xfj nv.d.es (R2 f) (gR f) J) I call21 x.e.kp<|λ_ _=>Lm I<|EJ Bj I OQ I<|Lo Pq 0 I<|Lq I (AM I KI I x.k.kp)<|Mv 3 I<|Sb 14 true I ZFa<|EJ Bj I Eo I<|Lo H6 0 I<|Lq I (AM I CZ I x.p.kp)<|Mv 3 I<|Sb 20 true I ZFa<|EJ Bj I DS I<|Lo Fy 0 I<|Lq I (AM I BH I x.m.kp)<|Mv 2 I<|Ak I<|Al<|Ag<|Av I I<|λ_ h=>⟨(),congrArg Eb (by rw[hm0];rfl),T0,h.oS⟩
 have z:nv.d.leaf=false:=by simpa using y
 obtain⟨o,n,q,_,⟨v,u,kp⟩,i,l,s,j⟩:=Cx b z;exact Ab I<|Ah<|Kt<|Y I<|EJ Bj I RQ I<|Lo UN 0 I<|Lq I (AM I O8 I x.e.kp)<|Mv 2 I<|Sb 30 true I (by rw[o];rfl)<|EJ Bj I OQ I<|Lo Pq 0 I<|EJ Bj I Eo I<|Lo H6 0 I<|Z I<|E1 (Tl nv.d.kids nv.d.piv n j) I call168 ZIH<|λ_ _=>Lq I (Qy I)<|Lm I<|EJ Bj I DS I<|Lo Fy 0 I<|Z I<|E1 (Xfi nv.d.msgs i l J) I call169 x.m.kp<|λ_ _=>Lq I (Qy I) XF
def LU (nv:NV) (z:BJ nv.d) (j:nv.d.Sm 50000):Df prog 119 [.agg nv.c.toArray] (λw=>OE w nv) [] (λ_:Unit=>aa<|ZK nv.d) Tr (λ_=>[]):=by
 intro w b f;obtain⟨p,k,o,n⟩:=id j;refine E0 func119 I f<|Y I<|Z I<|AT I I I I<|λl=>M nv.c I<|A I<|E<|Y I<|EJ Bj I Z4 I<|Lo G4 0 I<|Nk<|Pre.PY 4 I (λx=>?_)<|λx=>?_
 .obtain⟨i,g,hm0,a,_⟩:=Fi z x;exact Am I<|Y I<|EJ Bj I RQ I<|Lo UN 0 I<|Z I<|E1 (Q1 nv.d.es (Xcu a) J) I call170 b.e.kp<|λ_ _=>A I<|s<|Ag<|Av I I<|λ_ h=>⟨(),congrArg Ei (by unfold ZK;rw[pN x]),T0,h.oS⟩
 have y:nv.d.leaf=false:=by simpa using x
 exact Ab I<|Ah<|Kt<|Y I<|EJ Bj I DS I<|Lo Fy 0 I<|Z I<|E1 (Q0 nv.d.msgs (Cx z y).2.2.2.2.2.2.1 J) I call171 b.m.kp<|λ_ _=>A I<|s<|Av I I<|λ_ h=>⟨(),congrArg Ei (by unfold ZK;rw[pQ Zi]),T0,h.oS⟩
def Xfv (nv:NV) (y:BJ nv.d) (a:nv.d.Sm 50000):Df prog 72 [.agg nv.c.toArray] (λw=>OE w nv) [] (λ_:Unit=>.bool true) Tr (λ_=>[]):=by
 intro w b f;obtain⟨j,l,g,k⟩:=id a;refine E0 func72 I f<|Y I<|Z I<|AT I I I I<|λi=>M nv.c I<|A I<|E<|Y I<|Lq I hG ?_
 have z:=gS y;refine Z I<|E1 (Xfk nv y a) I call118 (λ_ h=>b.keep h)<|λ_ _=>Lq I (Qt I)<|Nk<|Ab I<|Ah<|Kt<|Y I<|EJ Bj I Z4 I<|Lo G4 0 I<|r I<|Pre.PY 8 I (λx=>?_)<|λx=>?_
 .have e:ZK nv.d<=248:=by have:=z;rw[pN x] at this;exact this
  exact Lq I hG<|Z I<|E1 (LU nv y a) I call119 (λ_ h=>b.keep h)<|λ_ _=>Lq I WJ<|C 2 I<|Sb 13 true I (by first|exact sT J|(rw[x];rfl)|rfl)<|C 9 I ZB0
 have e:ZK nv.d<=205:=by have:=z;rw[pQ Yn] at this;exact this
 exact C 5 I<|EJ Bj I Z4 I<|Lo G4 0 I<|C 2 I<|Sb 17 true I zc<|Lq I hG<|Z I<|E1 (LU nv y a) I call119 (λ_ h=>b.keep h)<|λ_ _=>Lq I WJ<|C 2 I ZB0
end Go.Proofs.YtloldofjddbjoaaGreat
namespace Go.Sep
open Go.RowKit
def El (b:Nat) (o:Obj):Nr:=⟨some b,λx=>x=some o⟩
abbrev Tn (fn:FuncId) (tmps:cb) (ps:Array Tmp) (assign body:Code) (D0:Nat):Loop:={state:=.ready,pending:=none,fn,tmps,params:=ps,assign,body,defers:=D0}
abbrev FW:Fence:=Fence.wide
def St.put {w0:d7} {D:bm} {H:ci} {w:d7} {b:Nat} {o:Obj} (h:St w0 D (El b o::H) w) (x:Obj):St w0 D (El b x::H) (w.putObj b x) :=
 St.write h rfl rfl rfl World.putObj_size (λk y=>World.putObj_heap_other y) (World.putObj_heap_same<|h.hp.lt b<|show b∈b::Sep.dom H from rW ..)
section
variable {P:d8} {n:Nat} {L:Env} {X:aU} {Q:aB} {w0:d7} {D:bm} {H:ci}
def Pt {k:Nat} {x:String} {args:cb} {w:d7} {R:d0->aU} (h:Rows P x args w R):RowsIn FW k P x args w R:=λc cs _=>by
 obtain⟨v,y,r,s⟩:=h c cs
 exact⟨v,y,r,stepsIn_wide.2 s⟩
def Jh (o:Oper):Bool:=match o.op with|.defer _=>false|_=>true
def Wf {l k:Nat} {o:Oper} (y:Jh o) {a:Act} {w:d7} {K:aO} (h:o.wp P a w K Q):o.wpIn (FW.inRound l) k P a w K Q:=by
 refine⟨λ_ _=>trivial,?_⟩
 have e:o.semAt (some l) a.eval=execOp a.eval o:=by
  unfold Oper.semAt;unfold Jh at y;split
  .rename_i hd;rw[hd] at y;cases y
  rfl
 show o.uponIn (FW.inRound l) k P a K Q ((o.semAt (some l) a.eval).run P w)
 rw[e];exact Xds
def cS {k:Nat} {o:Oper} {a:Act} {w:d7} {K:aO} (h:o.wp P a w K Q):o.wpIn FW k P a w K Q:=by
 refine⟨λ_ _=>trivial,?_⟩;show o.uponIn FW k P a K Q ((execOp a.eval o).run P w)
 exact Xds
def Oc {l k:Nat} {ops:bM} (c:∀a w,¬Q .outgrown a w) (b:ops.toList.all Jh) {f:Region.Mode}:∀(x:Nat) (y:bz) (a:Act) (w:d7),wpAny P f ops Q x y a w->wpAnyIn (FW.inRound l) k P f ops Q x y a w
 |0,_,_,_,h=>h
 |x+1,y,a,w,h=>⟨h.1,λi hi=>by
  have z:=h.2 i hi
  unfold wpOpIn
  unfold wpOp at z
  cases ho:ops[i]? with
  |none=>rw[ho] at z;exact Oc c b x _ _ _ z
  |some o =>
   rw[ho] at z
   have d:Jh o=true:=rT.1 b o<|by simpa using Array.mem_of_getElem? ho
   dsimp only at z ⊢
   split
   .rename_i hw
    rw[pN hw] at z
    exact Oper.wpIn_mono (λa w=>Oc c b x _ a w)<|Wf d<|z.resolve_right (λe=>by obtain⟨_,g,j,e⟩:=e;exact c _ _ e)
   .rename_i hw
    rw[pQ hw] at z
    exact⟨λ_ _=>trivial,Oc c b x _ _ _ z⟩⟩
def Li {l k:Nat} {ops:bM}:∀(rest:bv) (a:Act) (w:d7),rest.all Jh=true->Ol P ops Q rest a w->wpListIn (FW.inRound l) k P ops Q rest a w
 |[],_,_,_,h=>h
 |o::rest,a,w,hn,h=>by
  simp only[List.all_cons,qW] at hn
  unfold wpListIn
  unfold Ol at h
  split
  .rename_i hw
   rw[pN hw] at h
   exact Oper.wpIn_mono (λa w=>Li rest a w hn.2)<|Wf hn.1 h
  .rename_i hw
   rw[pQ hw] at h
   exact⟨λ_ _=>trivial,Li rest _ _ hn.2 h⟩
def Od {k:Nat} {ops:bM}:∀(rest:bv) (a:Act) (w:d7),Ol P ops Q rest a w->wpListIn FW k P ops Q rest a w
 |[],_,_,h=>h
 |o::rest,a,w,h=>by
  unfold wpListIn
  unfold Ol at h
  split
  .rename_i hw
   rw[pN hw] at h
   exact Oper.wpIn_mono (λa w=>Od rest a w)<|cS h
  .rename_i hw
   rw[pQ hw] at h
   exact⟨λ_ _=>trivial,Od rest _ _ h⟩
def opQ {x:Oper} {a:Act} {w:d7} {K b:aO} (h:x.wp P a w K<|Exit.then b Q):x.wp P a w K Q:=by
 unfold Oper.wp at *;generalize (execOp a.eval x).run P w=r at h;cases r with
 |ok y z =>
  cases y with
  |enter f args=>exact Calls.mono h (λe z h=>by cases e<;>exact h)
  |_=>exact h
 |halt y z =>
  cases y with
  |panic v=>exact h
  |_=>exact h
def yK (P:d8) (ops:bM) (Q:aB) (o:Oper) (l2:bv):aO:=λa w=>Region.wanted o (yielded ops a.tmps)=true/\o.wpIn FW 1 P a w (Ol P ops Q l2) Q
def cW {ops:bM} {o:Oper} {l2:bv}:∀(l1:bv) (a:Act) (w:d7),Ol P ops (Exit.then (yK P ops Q o l2) Q) l1 a w->wpListIn FW 1 P ops Q (l1++o::l2) a w
 |[],a,w,h=>by
  have h:yK P ops Q o l2 a w:=h
  show wpListIn FW 1 P ops Q (o::l2) a w
  unfold wpListIn
  rw[pN h.1]
  exact Oper.wpIn_mono (λa w=>Od l2 a w) h.2
 |x::rest,a,w,h=>by
  show wpListIn FW 1 P ops Q (x::(rest++o::l2)) a w
  unfold wpListIn
  unfold Ol at h
  split
  .rename_i hw
   rw[pN hw] at h
   have y:x.wp P a w (wpListIn FW 1 P ops Q<|rest++o::l2) (Exit.then (yK P ops Q o l2) Q):=Oper.wp_mono (λa w=>cW rest a w) h
   exact cS<|opQ y
  .rename_i hw
   rw[pQ hw] at h
   exact⟨λ_ _=>trivial,cW rest _ _ h⟩
def Xhk {b:Nat} {ops:bM} {l:bv} (k:Nat) {o:Oper} (f:ops=l.toArray) (g:l[k]?=some o) (h:Pre n L X<|Ol P ops (Exit.then (yK P ops Q o<|l.drop<|k+1) Q)<|l.take k):Pre n L X ((Code.region b ops false).wp P Q):=λa w d x=>by
 have e:l.take k++o::l.drop (k+1)=l:=by
  obtain⟨y,c⟩:=qp.1 g;rw[<-c,<-pC y,qV]
 have z:=cW _ a w<|h a w d x;rw[e] at z;subst f;exact (wpIn_wide (n:=1)).1<|wpIn_region_lit z
def Xlp {ops:bM} {o:Oper} {l2:bv} (z:CL ops L o=some true) (h:Pre n L X<|λa w=>o.wpIn FW 1 P a w (Ol P ops Q l2) Q):Pre n L X (yK P ops Q o l2):=λa w y x=>⟨CP y z,h a w y x⟩
abbrev RV (P:d8) (l k:Nat) (c:Code) (Q:aB):aO:=λa w=>c.wpIn (FW.inRound l) k P Q a w
def gT {l k y:Nat} {c:Code} (h:Pre n L X<|RV P l k c<|Exit.inBlock y Q):Pre n L X (RV P l k (Code.block y c) Q):=λa w z x=>wpIn_block<|h a w z x
def To {l k y:Nat} {ops:bM} (rest:bv) (c:ops=rest.toArray) (b:rest.all Jh) (h:Pre n L X<|Ol P ops Q rest):Pre n L X (RV P l k (Code.region y ops false) Q):=λa w z x=>by
 subst c
 exact wpIn_region_lit<|Li rest a w b<|h a w z x
def Xjh {g:d5} {ps:Array Tmp} {y z:Code} {gf:FuncId} {lb:cb} {β:Type} (p:β->Prop) (HB:β->ci) (G:ev L g=some (.func (.func gf) #[] lb)) (E:∀args w,(callFunc gf args).run P w=.ok (.enter gf args) w)
 (B:∀(a:Act) (fn:FuncId) (l i:Nat) (W:d7),Know n L a->St w0 D (El l (.loop<|Tn fn a.tmps ps y z i)::El i (.deferred<|some [])::H) W->Calls P gf (#[.func (.yield l) #[] #[]]++lb) W (λe t=>∃v b,e=.returned v/\p b/\St w0 D (El l (.loop<|Tn fn a.tmps ps y z i)::El i (.deferred<|some [])::HB b) t))
 (f:∀b,p b->∀(a:Act) (i:Nat) (W:d7),Know n L a->St w0 D (El i (.deferred<|some [])::HB b) W->Q .normal {a with defers:=[{target:=.collected i,args:=#[]}]} W):Pre n L (St w0 D H) ((Code.rangeFunc g ps y z).wp P Q):=λa w s x=>by
 refine (wpIn_wide (n:=1)).1<|wpIn_rangeFunc<|λfn _=>?_
 have m:=St.alloc (o:=.deferred<|some []) (φ:=λx=>x=some (.deferred<|some [])) x rfl
 have j:=St.alloc (o:=.loop<|Tn fn a.tmps ps y z w.heap.size) (φ:=λx=>x=some (.loop<|Tn fn a.tmps ps y z w.heap.size)) m rfl
 rw[rE] at j
 have C:=run_enterLoop_outer (P:=P) (w:=w) fn a.tmps ps y z
 obtain⟨W1,d⟩:∃W1,W1=(w.alloc<|.deferred<|some []).alloc (.loop<|Tn fn a.tmps ps y z w.heap.size):=⟨_,rfl⟩
 have A:St w0 D (El (w.heap.size+1) (.loop<|Tn fn a.tmps ps y z w.heap.size)::El w.heap.size (.deferred<|some [])::H) W1:=by rw[d];exact j
 have u:(Instr.enterLoop fn a.tmps ps y z none).run P w=.ok (w.heap.size+1,[{target:=.collected w.heap.size,args:=#[]}]) W1:=by rw[C,d]
 have r:(resolve a.eval (rangeCall g<|w.heap.size+1) 0).run P W1=.ok {target:=.fn (.func gf) lb,args:=#[.func (.yield<|w.heap.size+1) #[] #[]]} W1:=by
  simp only[resolve,s.eval G];simp[go_sem]
 have k:(invoke (.fn (.func gf) lb) #[.func (.yield<|w.heap.size+1) #[] #[]]).run P W1=.ok (.enter gf<|#[.func (.yield<|w.heap.size+1) #[] #[]]++lb) W1:=by
  simp[invoke,go_sem,E]
 have c:=B a fn (w.heap.size+1) w.heap.size W1 s A;clear m j C d;refine⟨w.heap.size+1,[{target:=.collected w.heap.size,args:=#[]}],W1,{target:=.fn (.func gf) lb,args:=#[.func (.yield<|w.heap.size+1) #[] #[]]},W1,gf,#[.func (.yield<|w.heap.size+1) #[] #[]]++lb,W1,u,r,λ_ _=>trivial,k,λh=>wU,?_⟩;refine callsIn_wide.2<|c.mono ?_;rintro e t ⟨v,b,rfl,F,q⟩;have J:t.heap[w.heap.size+1]?=some (.loop<|Tn fn a.tmps ps y z w.heap.size):=q.at 0 rfl;refine⟨none,_,run_endLoop J (show LoopState.ready≠.busy by decide),?_⟩;show Q .normal {a with defers:=[{target:=.collected w.heap.size,args:=#[]}]++a.defers} _
 rw[s.defers];exact f b F a w.heap.size _ s (q.put _).drop
def Xji {o:Oper} {g:d5} {xs:bx} {u:ca} {d l k:Nat} {rec:Loop} {vs:bi} {X':aU} {K:aO} (m:o.op=.call ⟨.value g,xs.toArray,u⟩) (hd:o.dst=some d) (s:d.blt n) (i:ev L g=some (.func (.yield l) #[] #[])) (r:evs L xs=some vs) (c:vs.length=rec.params.size)
 (q:∀w,X w->w.heap[l]?=some (.loop rec)) (p:∀w,X w->RoundIn FW (k-1) P l rec.fn ((rec.params.zip vs.toArray).foldl (λtmps (t,a)=>tmps.setIfInBounds t a) rec.tmps) rec.assign rec.body w (λe f=>e=.returned (.bool true)/\X' f)) (h:Pre n ((d,.bool true)::L) X' K):Pre n L X (λa w=>o.wpIn FW k P a w K Q):=λa w b x=>by
 refine⟨λ_ _=>trivial,?_⟩
 have y:(xs.toArray.map a.eval)=vs.toArray:=by rw[qF,b.eX r]
 have v:(Instr.yield l vs.toArray).run P w=.ok (.round l rec.fn ((rec.params.zip vs.toArray).foldl (λtmps (t,a)=>tmps.setIfInBounds t a) rec.tmps) rec.assign rec.body) w:=run_yield (q w x) dP
 have z:(execOp a.eval o).run P w=.ok (.round l rec.fn ((rec.params.zip vs.toArray).foldl (λtmps (t,a)=>tmps.setIfInBounds t a) rec.tmps) rec.assign rec.body) w:=by
  simp only[execOp,m,resolve,b.eval i,Deferred.ofValue,qC,qD,qE,invoke,y];simpa using v
 show o.uponIn FW k P a K Q ((execOp a.eval o).run P w)
 rw[z];refine⟨λh=>wU,(p w x).mono ?_⟩;rintro e f ⟨rfl,j⟩;show K (a.put o.dst<|.bool true) f
 rw[hd];exact h _ _ (b.put _ s) j
def Xc0 (P:d8) (w0:d7) (D:bm) (l k:Nat) (rec:Loop) (H:ci) {β:Type} (HB:β->ci):aO:=λa w=>St w0 D (El l (.loop rec)::H) w/\RV P l k rec.body (λe _ w=>e=.normal/\∃b,St w0 D (El l (.loop {rec with state:=.busy})::HB b) w) a (w.putObj l<|.loop {rec with state:=.busy})
def lO {l k:Nat} {rec:Loop} {β:Type} {HB:β->ci} (h:Pre n L (St w0 D<|El l (.loop {rec with state:=.busy})::H)<|RV P l k rec.body<|λe _ w=>e=.normal/\∃b,St w0 D (El l (.loop {rec with state:=.busy})::HB b) w):Pre n L (St w0 D<|El l (.loop rec)::H) (Xc0 P w0 D l k rec H HB):=λa _ y x=>⟨x,h a _ y<|x.put _⟩
def cX {l k m:Nat} {rec:Loop} {h:cb} {d:Env} {β:Type} {HB:β->ci} (f:rec.state=.ready) (g:rec.pending=none) (p:Know m d {tmps:=h,defers:=[]}) {H:ci} {w:d7} (j:St w0 D (El l (.loop rec)::H) w)
 (o:Pre m d (St w0 D<|El l (.loop rec)::H)<|RV P l k rec.assign<|Exit.then (Xc0 P w0 D l k rec H HB)<|λ_ _ _=>False):RoundIn FW k P l rec.fn h rec.assign rec.body w (λe r=>e=.returned (.bool true)/\∃b,St w0 D (El l (.loop rec)::HB b) r):=by
 refine roundIn_of_wpIn trivial (wpIn_mono (o _ w p j) ?_);intro e t n c;cases e with
 |normal =>
  obtain⟨y,i⟩:=c;have z:n.heap[l]?=some (.loop rec):=y.at 0 rfl;refine⟨_,run_beginRound z f,wpIn_mono i ?_⟩;rintro u s q ⟨rfl,b,x⟩;have a:q.heap[l]?=some (.loop {rec with state:=.busy}):=x.at 0 rfl;refine⟨_,_,run_endRound none a,rfl,b,?_⟩;have:=x.put<|.loop {({rec with state:=.busy}:Loop) with state:=if (none:Option Code).isNone then .ready else .done,pending:=none}
  have e:({({rec with state:=.busy}:Loop) with state:=if (none:Option Code).isNone then .ready else .done,pending:=none}:Loop)=rec:=by
   cases rec;cases f;cases g;rfl
  rw[e] at this;rw[e];exact this
 |_=>exact c.elim
def lP {f:Nat} {fn:Func} {c:Code} {vs:bi} {w:d7} {R:Ending->aU} (X:aU) (b:P.funcs[f]?=some fn) (d:fn.body=some c) (y:fn.ntmps=n) (z:vs.length.ble n) (g:X w)
 (h:Pre n (Ju 0 vs) X<|c.wp P<|bodyPostM FW 1 P fn R):Calls P f vs.toArray w R:=by
 subst y;refine (callsIn_wide (n:=1)).1<|callsIn_of_wp_marks b d trivial (wpIn_wide.2<|h _ w ⟨?_,rfl,λi v a=>?_⟩ g)
 .have:=rO z;simp;omega
 exact Xd0
def Xjj {v x d t:Nat} {fn:Func} {R:Ending->aU} {y h:Oper} {b z:d0} {a:Act} {W:d7} (hd:y.dst=some d) (p:h.dst=some t) (r:y.guard=none) (k:h.guard=none) (w:d.blt n) (hm:t.blt n) (q:fn.results=#[.tmp t]) (s:MV P n L X y b) (m:MV P n ((d,b)::L) X h z) (e:Know n L a) (f:X W) (c:W.heap[x]?=some (.deferred<|some [])) (l:R (.returned z)<|W.putObj x<|.deferred none):(Code.seq (.region v #[y,h] false) .ret).wp P (bodyPostM FW 1 P fn R) {a with defers:=[{target:=.collected x,args:=#[]}]} W:=by
 refine wp_seq<|wp_region<|List.range_eq_range'▸KE [y,h] 0 (λj=>A3) _ _ ?_;have u:=s a W e f;have g:=e.put b w;have o:=m _ W g f;have i:=g.put z hm;unfold Ol;rw[pN<|by unfold Region.wanted;rw[r]];unfold Oper.wp;rw[show (execOp ({a with defers:=[{target:=.collected x,args:=#[]}]}:Act).eval y).run P W=_ from u];show Ol P _ _ [h] _ W
 rw[hd];unfold Ol;rw[pN<|by unfold Region.wanted;rw[k]];unfold Oper.wp;rw[show (execOp (Act.put {a with defers:=[{target:=.collected x,args:=#[]}]} (some d) b).eval h).run P W=_ from o];show (Code.ret).wp P _ _ W
 rw[p];refine wp_ret ⟨A3,.inl ⟨x,_,rfl,run_takeDeferred c,z,?_,l⟩⟩;exact Gq (rs:=[.tmp t]) (vs:=[z]) i q<|by simp[Ln,look]
end
end Go.Sep
namespace Go.Proofs.YtloldofjddbjoaaGreat
open Go.Sep Go.RowKit Tryz
variable {R:bm} {i b B:Nat} {d:Nd} {x:HQ}
section
variable {U:Nat->Prop} {N:Nat->Nd} {G:Gh}
def E6 (d:Nd):bm:=d.kids.map Int.toNat
def lvl (G:Gh) (R:bm):bf:=R.map<|λb=>(G.ht 0:Int)+1-(G.ht b:Int)
def Xjk:(lvl G R).length=R.length:=qY ..
def XkH (h:R[i]?=some b):(lvl G R)[i]?=some ((G.ht 0:Int)+1-(G.ht b:Int)):=by unfold lvl;rw[qq,h];rfl
def cY {b:Nat} (h:R[i]?=some b):(nI R)[i]?=some (b:Int):=by unfold nI;rw[qq,h];rfl
structure BW (U:Nat->Prop) (N:Nat->Nd) (G:Gh) (n:Nat) (R:bm):Prop where
 u:∀b∈R,U b
 nd:R.Nodup
 z:R[0]?=some 0
 cl:∀j,j<n->∀b,R[j]?=some b->∀k:Nat,(k:Int)∈(N b).kids->k∈R
 pr:∀j c,0<j->R[j]?=some c->∃q p,q<n/\R[q]?=some p/\G.par c=some p
def BW.zero (h:TI U N G):BW U N G 0 [0]:=⟨λb x=>by simp at x;rw[x];exact h.r.1,A3,rfl,λj hj=>absurd hj<|s6 _,λj c hj y=>by
 have:=(qp.1 y).1
 simp at this;omega⟩
def FZ (h:TI U N G) {b:Nat} (a:U b) {k:Int} (y:k∈(N b).kids):∃c:Nat,k=(c:Int)/\U c/\c≠0/\G.par c=some b/\G.ht c+1=G.ht b:=by
 obtain⟨i,hi⟩:=tj.1 y;obtain⟨c,e,z,f,x,d,_⟩:=h.kid b a i k hi;exact⟨c,e,z,f,x,d⟩
def Xin (h:TI U N G) {b:Nat} (y:U b):nI (E6<|N b)=(N b).kids:=by
 unfold nI E6;rw[rG]
 conv=>rhs;rw[<-List.map_id (N b).kids]
 refine List.map_congr_left<|λk x=>?_
 obtain⟨c,e,_⟩:=FZ h y x;show ((k.toNat:Nat):Int)=k
 omega
def Xhl (h:TI U N G) {b:Nat} (a:U b):lvl G (E6<|N b)=List.replicate (N b).kids.length ((G.ht 0:Int)+1-(G.ht b:Int)+1):=by
 have e:(N b).kids.length=(E6<|N b).length:=(qY ..).symm;rw[e];unfold lvl;refine List.eq_replicate_iff.2 ⟨qY ..,λx z=>?_⟩;obtain⟨c,d,rfl⟩:=qj.1 z;obtain⟨k,y,rfl⟩:=qj.1 d;obtain⟨c,e,_,_,_,f⟩:=FZ h a y;have:k.toNat=c:=J;rw[this];omega
def Lj (h:TI U N G) {b c:Nat} (y:U b) (z:c∈E6 (N b)):(c:Int)∈(N b).kids:=by
 obtain⟨k,x,rfl⟩:=qj.1 z;obtain⟨c,e,_⟩:=FZ h y x;have:((k.toNat:Nat):Int)=k:=J;rw[this];exact x
def Xhm (h:BJ d):d.kids.Nodup:=by
 cases hl:d.leaf with
 |true=>rw[(Fi h hl).1];exact sh
 |false=>exact Fj (Cx h hl).2.1
def BW.step (h:TI U N G) {n:Nat} {R:bm} (w:BW U N G n R) {b:Nat} (m:R[n]?=some b):BW U N G (n+1) (R++E6 (N b)):=by
 have f:=w.u b<|ry m;have l:=(qp.1 m).1;refine⟨λc d=>?_,?_,?_,λj hj c d k v=>?_,λj c hj d=>?_⟩
 .rcases rB.1 d with e|e
  .exact w.u c e
  obtain⟨c',e',B,_⟩:=FZ h f (Lj h f e);have:c=c':=J;rw[this];exact B
 .refine su.2 ⟨w.nd,?_,λa C c d e=>?_⟩
  .have D:=Xhm (h.fit b f);unfold E6;refine List.pairwise_map.2<|List.Pairwise.imp_of_mem (λ{x y} hx hy hxy e=>?_) D;obtain⟨c,o,_⟩:=FZ h f hx;obtain⟨c',E,_⟩:=FZ h f hy;exact hxy J
  subst e;obtain⟨c',e',_,t,r,_⟩:=FZ h f<|Lj h f d;have o:a=c':=J;subst o;obtain⟨j,hj⟩:=tj.1 C
  have s:0<j:=by
   rcases qg j with e|e
   .rw[e,w.z] at hj;cases hj;exact absurd rfl t
   exact e
  obtain⟨q,p,A,i,g⟩:=w.pr j a s hj;rw[r] at g;cases g
  have:=Hn w.nd i m;omega
 .rw[pL J];exact w.z
 .by_cases hjn:j=n
  .subst hjn;rw[pL l,m] at d;cases d
   refine sw _ ?_;refine qj.2 ⟨(k:Int),v,J⟩
  rw[pL J] at d;exact qh _<|w.cl j J c d k v
 by_cases hjl:j<R.length
 .rw[pL hjl] at d;obtain⟨q,p,A,i,g⟩:=w.pr j c hj d;exact⟨q,p,J,by rw[pL J];exact i,g⟩
 rw[pO J] at d;obtain⟨c',e',_,t,r,_⟩:=FZ h f<|Lj h f<|ry d;have o:c=c':=J;subst o;exact⟨n,b,J,by rw[pL l];exact m,r⟩
def BW.all (h:TI U N G) {n:Nat} {R:bm} (w:BW U N G n R) (i:R.length<=n):∀(m b:Nat),U b->G.ht 0-G.ht b<=m->b∈R:=by
 intro m
 induction m with
 |zero =>
  intro b x hm;by_cases h0:b=0
  .rw[h0];exact ry w.z
  have:=(h.up b x h0).1;omega
 |succ m ih =>
  intro b x hm;by_cases h0:b=0
  .rw[h0];exact ry w.z
  obtain⟨g,p,f,a,y⟩:=h.up b x h0;obtain⟨c',e',_,_,_,e⟩:=FZ h a y;have d:b=c':=J;subst d;have c:=ih p a J;obtain⟨j,hj⟩:=tj.1 c;have:=(qp.1 hj).1;exact w.cl j J p hj b y
def BW.len (h:TI U N G) {n:Nat} {R:bm} (w:BW U N G n R):R.length<=256:=by
 have:=w.nd.length_le_of_subset (l₂:=List.range 256)<|λb x=>qm.2<|h.bd b<|w.u b x
 rwa[tr] at this
def BW.used {s:OH} (h:TI (λb=>s.us[b]?=some true) N G) {n:Nat} {R:bm} (w:BW (λb=>s.us[b]?=some true) N G n R) (a:R.length<=n):s.used.length=R.length:=by
 have y:∀b,b∈s.used↔s.us[b]?=some true:=λb=>by
  unfold OH.used;rw[tc,qm,sY];constructor
  .rintro⟨c,z⟩;rw[pE c] at z ⊢;exact congrArg some z
  intro e;exact⟨(qp.1 e).1,by rw[e];rfl⟩
 have hd:s.used.Nodup:=List.Pairwise.filter _ List.nodup_range;have p:s.used.Perm R:=(List.perm_ext_iff_of_nodup hd w.nd).2<|λb=>⟨λx=>w.all h a (G.ht 0-G.ht b) b ((y b).1 x)<|qb _,λx=>(y b).2<|w.u b x⟩
 exact p.length_eq
def BW.place (h:TI U N G) {n:Nat} {R:bm} (w:BW U N G n R) {i b:Nat} (y:R[i]?=some b):SG (nI R) (b:Int)=some i:=by
 have z:=(qp.1 y).1;unfold SG;refine Db (k:=i) (cY y) (sT I)<|λx a=>sS<|λe=>?_
 obtain⟨j,hj⟩:=tj.1 a;rw[pM] at hj;split at hj
 .rename_i hji;unfold nI at hj;rw[qq] at hj;obtain⟨c,f,g⟩:=rv.1 hj;have d:c=b:=J;subst d;have:=Hn w.nd f y;omega
 cases hj
def Om (N:Nat->Nd) (k:c3):Nat->Nat
 |0=>0
 |j+1=>((N<|Om N k j).kids.getD (EL (N<|Om N k j).piv k) 0).toNat
def Qm (N:Nat->Nd) (k:c3) (j:Nat):bm:=(List.range j).map<|Om N k
def Mp (N:Nat->Nd) (k:c3) (j:Nat):(Qm N k j).length=j:=by unfold Qm;rw[qY,tr]
def Tp (N:Nat->Nd) (k:c3) (j:Nat):nI (Qm N k<|j+1)=nI (Qm N k j)++[(Om N k j:Int)]:=by
 unfold Qm nI;rw[tp,qR,qR];rfl
def KA (h:TI U N G) (k:c3):∀j,j<=G.ht 0->U (Om N k j)/\G.ht (Om N k j)+j=G.ht 0
 |0,_=>⟨h.r.1,rfl⟩
 |j+1,hj=>by
  obtain⟨y,m⟩:=KA h k j J
  have z:(N<|Om N k j).leaf=false:=by
   cases hl:(N<|Om N k j).leaf with
   |false=>rfl
   |true=>have:=(h.lf _ y).1 hl;omega
  obtain⟨_,_,_,_,⟨l,i,kp⟩,_⟩:=Cx (h.fit _ y) z;have f:=L9 (N<|Om N k j).piv k;obtain⟨x,a⟩:∃x,(N<|Om N k j).kids[EL (N<|Om N k j).piv k]?=some x:=⟨_,pE J⟩
  obtain⟨c,e,b,_,_,g,_⟩:=h.kid _ y _ x a
  have d:Om N k (j+1)=c:=by
   show ((N<|Om N k j).kids.getD _ 0).toNat=c
   rw[sY,a];show x.toNat=c
   omega
  rw[d];exact⟨b,J⟩
def Xjl (h:TI U N G) (k:c3) {j:Nat} (hj:j<G.ht 0):(N<|Om N k j).leaf=false/\EL (N<|Om N k j).piv k<(N<|Om N k j).kids.length/\(N<|Om N k j).kids[EL (N<|Om N k j).piv k]?=some (Om N k (j+1):Int):=by
 obtain⟨a,g⟩:=KA h k j J
 have y:(N<|Om N k j).leaf=false:=by
  cases hl:(N<|Om N k j).leaf with
  |false=>rfl
  |true=>have:=(h.lf _ a).1 hl;omega
 obtain⟨_,_,_,_,⟨f,d,kp⟩,_⟩:=Cx (h.fit _ a) y;have b:=L9 (N<|Om N k j).piv k;obtain⟨x,z⟩:∃x,(N<|Om N k j).kids[EL (N<|Om N k j).piv k]?=some x:=⟨_,pE J⟩
 obtain⟨c,e,_⟩:=h.kid _ a _ x z;refine⟨y,J,?_⟩;rw[z];show some x=some (((N<|Om N k j).kids.getD _ 0).toNat:Int)
 rw[sY,z];show some x=some ((x.toNat:Nat):Int)
 rw[e];rfl
def Xjm (h:TI U N G) (k:c3):(N<|Om N k<|G.ht 0).leaf=true:=by
 obtain⟨x,y⟩:=KA h k (G.ht 0)<|qb _;exact (h.lf _ x).2 J
def c4 (h:TI U N G) (k:c3) {j:Nat} (hj:j<=G.ht 0+1):(Qm N k j).Nodup:=by
 unfold Qm;refine List.pairwise_map.2<|List.Pairwise.imp_of_mem (λ{x y} hx hy hxy e=>?_) List.nodup_range;have z:=(KA h k x (by have:=qm.1 hx;omega)).2;have a:=(KA h k y (by have:=qm.1 hy;omega)).2;rw[e] at z;exact hxy J
def Wg (h:TI U N G):G.ht 0+1<=256:=by
 have:=(c4 h (Na 8)<|qb _).length_le_of_subset (l₂:=List.range 256) (λb x=>by
  obtain⟨j,hj,rfl⟩:=qj.1 x
  exact qm.2<|h.bd _ (KA h _ j (by have:=qm.1 hj;omega)).1)
 rwa[tr,Mp] at this
def lR (h:TI U N G) (k:c3) {j:Nat} (hj:j<=G.ht 0):(Om N k j:Int)∉nI (Qm N k j):=λhm=>by
 obtain⟨b,y,e⟩:=qj.1 hm
 obtain⟨i,hi,rfl⟩:=qj.1 y
 have a:=qm.1 hi
 have x:=(KA h k i J).2
 have c:=(KA h k j hj).2
 have z:Om N k i=Om N k j:=J
 rw[z] at x;omega
def g7 {ps:List<|c3} (d:Bt id ps) {k:c3} {i:Nat} (hi:i<=ps.length) (m:i=0\/∀p,ps[i-1]?=some p->Bs p k<=0) (c:∀p,ps[i]?=some p->Bs k p<0):EL ps k=i:=by
 have o:∀j p q,ps[j]?=some p->ps[i]?=some q->i<=j->Bs k p<0:=λj p q h x y=>by
  rcases Nat.eq_or_lt_of_le y with e|e
  .subst e;rw[h] at x;exact c p h
  have:=XaF.1 d i j q p e x h;exact Cm (c q x)<|qP this
 have f:∀j p,ps[j]?=some p->(Bs p k<=0↔j<i):=λj p h=>by
  have n:=(qp.1 h).1;constructor
  .intro z;refine Nat.lt_of_not_le<|λy=>?_
   obtain⟨q,x⟩:=gE ps i;have:=o j p q h x y;have s:Bs p k = - Bs k p:=J2 _ _;omega
  intro r;rcases m with e|e
  .omega
  obtain⟨q,x⟩:=gE ps (i-1);have a:=e q x;rcases Nat.eq_or_lt_of_le (show j<=i-1 by omega) with b|b
  .subst b;rw[h] at x;cases x;exact a
  exact qP<|Cm (XaF.1 d j (i-1) p q b h x) a
 unfold EL;rw[<-qV i ps,List.countP_append]
 have l:(ps.take i).countP (λp=>decide (Bs p k<=0))=(ps.take i).length:=List.countP_eq_length.2 (λp h=>by
  obtain⟨j,hj⟩:=tj.1 h;rw[pM] at hj;split at hj
  .rename_i hji;exact sT<|(f j p hj).2 hji
  cases hj)
 have g:(ps.drop i).countP (λp=>decide (Bs p k<=0))=0:=List.countP_eq_zero.2 (λp h=>by
  obtain⟨j,hj⟩:=tj.1 h;rw[pP] at hj;simp only[rA];intro z;have:=(f _ p hj).1 z
  omega)
 rw[l,g,pI];omega
def g8 (h:TI U N G) {k:c3}:∀(m b:Nat),U b->RV (G.lo b) (G.hi b) k->G.ht 0-G.ht b=m->Om N k m=b/\m<=G.ht 0:=by
 intro m
 induction m with
 |zero =>
  intro b r _ hm;by_cases d:b=0
  .exact⟨d.symm,qc _⟩
  have:=(h.up b r d).1;omega
 |succ m ih =>
  intro b r a hm;have d:b≠0:=λe=>by rw[e] at hm;omega
  obtain⟨J,p,H,c,w⟩:=h.up b r d;obtain⟨i,hi⟩:=tj.1 w;obtain⟨_,_,_,A,f,g⟩:=h.YX c hi;have n:=h.inner c hi;obtain⟨_,_,_,_,⟨F,E,kp⟩,_,_,_,j⟩:=Cx (h.fit _ c) n;have B:=(qp.1 hi).1;have t:=(h.key p c).p;rw[f,g] at a;obtain⟨x,y⟩:=a
  have o:RV (G.lo p) (G.hi p) k:=by
   refine⟨λl v=>?_,λu s=>?_⟩
   .unfold Ub at x;split at x
    .exact x l v
    obtain⟨q,z⟩:∃q,(N p).piv[i-1]?=some q:=⟨_,pE A1⟩
    exact IW ((t q<|ry z).1 l v)<|x q z
   unfold Ua at y;split at y
   .rename_i hlt;obtain⟨q,z⟩:∃q,(N p).piv[i]?=some q:=⟨_,pE hlt⟩
    exact Cm (y q z)<|qP<|(t q<|ry z).2 u s
   exact y u s
  obtain⟨C,K⟩:=ih p c o A1
  have D:EL (N p).piv k=i:=g7 j A1 (by
   unfold Ub at x;split at x
   .exact .inl Yo
   .exact .inr<|λq z=>x q z) (λq z=>by
   have:=(qp.1 z).1;unfold Ua at y;rw[pN this] at y
   exact y q z)
  refine⟨?_,A1⟩;show ((N<|Om N k m).kids.getD (EL (N<|Om N k m).piv k) 0).toNat=b
  rw[C,D,sY,hi];rfl
def XkI (h:TI U N G) {k:c3} {b:Nat} (y:U b) (x:RV (G.lo b) (G.hi b) k):∃i,SG (nI<|Qm N k<|G.ht 0+1) (b:Int)=some i:=by
 obtain⟨z,a⟩:=g8 h _ b y x rfl;have hm:(b:Int)∈nI (Qm N k<|G.ht 0+1):=qj.2 ⟨b,qj.2 ⟨_,qm.2 J,z⟩,rfl⟩;cases hf:SG (nI<|Qm N k<|G.ht 0+1) (b:Int) with
 |some i=>exact⟨i,rfl⟩
 |none =>
  unfold SG B8 at hf;have:=List.findIdx?_eq_none_iff.1 hf _ hm;simp at this
def KB (d:Nd):List (c3):=d.es.map En.key++d.msgs.map Ms.key++d.piv
def c5 {lo hi:Option<|c3} (h:Ye lo hi d):∀k∈KB d,RV lo hi k:=λk z=>by
 rcases rB.1 z with e|e
 .rcases rB.1 e with e|e
  .obtain⟨x,y,rfl⟩:=qj.1 e;exact h.e x y
  .obtain⟨x,y,rfl⟩:=qj.1 e;exact h.m x y
 .exact h.p k e
end
structure Xc (U:Nat->Prop) (N:Nat->Nd) (L:Hm):Prop where
 lk:∀b,U b->(∃i,L.M.Me (b:Int) 2=some i/\(L.M.at' i).nd=N b)\/(L.M.Me (b:Int) 2=none/\L.s.us[b]?=some true/\∃bk,L.s.bl[b]?=some bk/\IE bk.l (N b))
def HJ.lk {N:Nat->Nd} {G:Gh} {m:HM} (h:HJ N G m):Xc m.L.U N m.L:=⟨λb x=>by
 cases hf:m.L.M.Me (b:Int) 2 with
 |some i =>
  refine .inl ⟨i,rfl,?_⟩
  obtain⟨f,z,d,y,c⟩:=Mh hf
  have:=h.s.n.nd i f z y
  rw[d] at this
  rw[c];exact this
 |none=>exact .inr ⟨rfl,x,h.s.disk x (λa=>by
  have:=h.s.h.Ti.2 a
  rw[hf] at this;cases this)⟩⟩
def UO (h:x.Ok B) {U:Nat->Prop} {N:Nat->Nd} (f:Xc U N x.hm) {b:Nat} (d:U b):Df prog 71 [BM x.bh,aa (b:Int)] Tr x.H (λs:N4=>.tuple #[.agg (⟨s,N b⟩:NV).c.toArray,.bool true]) Tr (λs=>Bo (⟨s,N b⟩:NV)++x.H):=by
 rcases f.lk b d with⟨i,y,z⟩|⟨y,z,bk,a,e⟩
 .rw[<-z];exact XcS h y
 exact Z1 h z y a e
def Xlq (h:x.Ok B) {U:Nat->Prop} {N:Nat->Nd} (d:Xc U N x.hm) {b:Nat} (a:U b) {v:d0} {y:bf} (i:y.length<=1000) (z:(b:Int)∉y):Df prog 56 [BM x.bh,v,aa (b:Int)] Tr ((AG v 3 ds y::x.H)) (λs:N4=>.agg (⟨s,N b⟩:NV).c.toArray) Tr (λs=>Bo (⟨s,N b⟩:NV)++(AG v 3 ds y::x.H)):=by
 intro w g e;refine Ey func56 I e<|Y I<|Z I<|Ax I I I zeroValue135<|λj=>M NZ.c I<|Nk<|Y I<|C 2 I<|Z I<|Ee [_,_] (UO h d a) I call71 Tt<|λs _=>Pre.world (St _ _<|_::_::_::_::_::_::HQ.H x) Ih ?_
 refine C 3 I<|Z I<|Ax I I I zeroValue135<|λf=>M NZ.c I<|Z I<|SW AK I Nc<|A I<|E<|Y I<|C 5 I<|Z I<|E1 (Lt.aX y (b:Int) J) I call105 ue<|λ_ _=>Lq I (Qz I)<|Nk<|Sb 21 false I (by first|rfl|exact sS z)<|Ab I<|Ah<|Kt<|Y I<|Lq I (Cq ((⟨s,N b⟩:NV).c) AV AK 0 I (I)<|I)<|AD<|Z I<|SW AK I Nc<|Nk<|Al<|p 13 [4,5,6,2,7,8,9,10,11,12,0,1,3] I ?_
 exact Pm [11,10,10] I ZHP