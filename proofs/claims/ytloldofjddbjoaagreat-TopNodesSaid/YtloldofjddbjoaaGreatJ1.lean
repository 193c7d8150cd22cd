/- Part 1. -/
import Derived.WalkKit
import Derived.Laws.BitsAllLaws
import Derived.ProofKit
import Derived.OpenShut
import Derived.Deep.Slices
import Derived.Deep.Draws
import Derived.Maps.AppendAt
import Derived.RegionTactic
import Derived.OwnWalk
import Derived.Laws.BytesArg
import Derived.Test.YtloldofjddbjoaaGreatChecked
import Derived.Lib.Hide
import Derived.Deep.QuietTactic
import Derived.BigQuiet
import Derived.WalkSpells
import Derived.DeepKeys5
import Derived.Laws.CopyOwn
import Derived.Deep.RegionHeld3
import Derived.Deep.RegionWith
import Derived.Laws.IdiomStrings
import Derived.OrdersHeld
import Derived.IntWalk
import Derived.Below
import Derived.ScopeJumps
import Derived.Test.YtloldofjddbjoaaGreatProg
import Derived.Lib.Overlaps
import Derived.Laws.Externs
import Derived.WideKeyRuns
import Derived.MapKept
import Derived.Maps.RangeRun
import Derived.Lib.Bytealg
import Derived.RangeFuncNested
import Derived.RangeFuncBound
import Derived.RangeFuncCalls
import Derived.RangeFuncLeaves
import Derived.RangeFuncFrom
import Derived.Shelf.Abstract
import Derived.Shelf.RegionOpen
import Derived.OwnWalkIn
import Derived.TacticsInMore
import Derived.LoopNIn
import Derived.LoopIn
import Derived.Lib.SliceRun
import Derived.OrdersIn
import Derived.Deep.RegionHeld
import Derived.TacticsIn
import Derived.RangeFuncBox
import Derived.Deep.AppendLies
import Derived.Laws.OwnMore
import Derived.RangeFuncRecord
set_option linter.all false
section
variable {p q:Prop}
def A1(h:p:=by omega):=h
abbrev J:=@A1
def A2(h:p:=by decide):=h
abbrev K:=@A2
def A3(h:p:=by simp):=h
abbrev j:=@A3
def A4(h:p:=by dsimp only;omega):=h
def A5(h:p:=by
 refine List.forall_mem_cons.2 ⟨?_,?_⟩
 .refine⟨λ_=>rfl,λ_=>trivial,rfl,_,rfl,rfl,rfl,λσ R g=>?_⟩
  exact uf
 refine List.forall_mem_cons.2 ⟨?_,?_⟩
 .exact yt
 refine List.forall_mem_cons.2 ⟨?_,?_⟩
 .exact yt
 refine List.forall_mem_cons.2 ⟨?_,?_⟩
 .exact yt
 exact uQ):=h
def A6(h:p:=by kernel_rfl):=h
def A7(h:p:=by exact Am I<|Cs I<|Ak I<|Al<|AA<|AA<|Ag<|Ag<|AA<|Ag<|Av I I<|λ_ h=>⟨(),congrArg Ei (by first|exact (f A1 A1).symm|exact (g A1 A1).symm|exact (j A1 A1).symm|(unfold Bs;rw[Cv y d x z A1 A1 e,pN A1])|(unfold Bs;rw[Cv y d x z A1 A1 e,pQ A1,pN A1])),T0,h.oS⟩):=h
def A8(h:p:=by simp only[pK,pz,sR];omega):=h
def A9(h:p:=by
 have e:OD m=false:=by
  exact Xd1
 rw[e]
 exact Yu):=h
def B3(h:p:=by
 rintro P ⟨n,h5,v⟩
 refine Pre.world (St _ _<|_::_::_::_::_::_::_::_::_::_::_::_::_::_::_::HQ.H (P)) Ih ?_
 refine AN<|Ks ?_
 rw[C] at v
 rw[D] at n
 refine LH 1 (BM P.bh) I (by rw[D,n])<|Cr I<|Mv 2 I ?_
 have w1:=(ql.N7 r.up<|Bz z.d i).N7 r.lo yC
 have o:=(Y.N7 r.up<|Bz z.d i).N7 r.lo yC
 rw[<-v] at w1 o
 refine VG 15 [0,1,2,3,4,5,6,7,8,9,11,12,13,14,10] I<|LW I<|Ee [_,_,_,_,_,_,_,_,_,_,_,_,_,_] (Nu h5 U A r w1.has) I call205 Tt ?_
 rintro y ⟨j,hk,Z⟩
 refine Pre.world (St _ _<|_ ::_ ::_ ::_ ::_ ::_ ::_ ::_ ::_ ::_ ::_ ::_ ::_ ::_::O5 A t ({r with pin:=false}:Rm)::HQ.H y) Ih ?_
 refine Nk ?_
 have w3:=o.leave (u:=t) w1.1 qn
 rw[<-show y.hm=P.hm.leave (P.hm.fi r.lo) t r.lo from Z] at w3
 rw[n] at j
 refine LH 1 (BM y.bh) I (by rw[n,j])<|Cr I<|Mv 2 I<|LW I<|Ee [_,_,_,_,_,_,_,_,_,_,_,_,_,_] (Nv hk U A ({r with pin:=false}:Rm) 0<|λ_=>w3.has) I call201 Tt ?_
 rintro q ⟨h8,h7,L⟩
 refine Pre.world (St _ _<|_ ::_ ::_ ::_ ::_ ::_ ::_ ::_ ::_ ::_ ::_ ::_ ::_ ::_::O5 A t (DU y.hm t {r with pin:=false} 0).2::HQ.H q) Ih ?_
 refine AE<|Au<|AW ?_
 have J:y.hm=(Eu ((x.hm.N7 r.up<|Bz z.d i).N7 r.lo yC) t r).1:=by rw[Z,v]
 rw[J] at L
 exact Ae<|Ae<|Ae<|Ae<|Ae<|Ae<|Ae<|Ae<|Ae<|Ae<|Ae<|Ae<|Ae<|Ae<|Bl I<|λ_ O=>⟨q,rfl,⟨by rw[h8,j],h7,by rw[hm];exact L⟩,by rw[hm];rw[J] at O;exact O⟩):=h
def E2(k:q)(h:q->p:=by exact λzz=>Ae<|Ai (Hb 2 4 I)<|Aq 16 I (Hb 2 4 I) uW<|Aq 17 I (Hb 2 4 I) uW<|An<|Au<|Kt<|Cr I<|Lm I<|Lq I (Qi I)<|Nh I<|AE<|VG 11 [1,0,3,4,5,6,7,8,9,10,2] I zz):=h k
def G2(h:p:=by
 rintro y ⟨d,q,u⟩
 refine VK ?_
 exact KC I<|OC I I uW<|AN<|Ks<|LZ (rg 13) 1062882 _ I St.drawn Ih<|Md 2 I<|Ht B1 I Z3 I<|Dq I XlR<|Md 4 I<|Ht B1 I TN I<|Dq I (Aj I V5 I uP XG)<|Md 2 I<|KC I<|OC I I uW<|AN<|Kt<|Al<|Bw (rs:=[.tmp 6,.tmp 7,.tmp 8]) I I<|λ_ p=>⟨(A,y),congrArg ZI3<|I,⟨d,q,u⟩,p⟩):=h
def HD(h:p:=by first|rfl|exact hl|exact sT A1|exact sS A1|(simp only[rA];omega)):=h
def HF(k:q)(h:q->p:=by exact λzz=>Af<|Ad<|Af<|Ad<|Af<|Ad<|Ad<|Cs I<|Lq I (Qe I)<|Ak I<|Sb 55 false I uU<|Ab I<|Ah<|Ks<|Cs I<|Lq I (Qe I)<|Ak I<|Sb 57 false I uU<|Ab I<|Ah<|Ks<|Cs I<|Lq I (Qe I) zz):=h k
def HG(h:p:=by first|rfl|(rw[x];rfl)|exact sS y|exact sS z):=h
def HO(k:q)(h:q->p:=by exact λzz=>Au<|Kt<|Cr I<|Lq I (Qi I)<|Lm I<|AE zz):=h k
def HV(h:p:=by
 have e:m.cs[i]?=none:=pH A1
 refine Am I<|Ah<|Ks<|Af<|Cs I<|Lm I<|Lq I Zu<|Lq I (AO i 0 I JV I I ue l I)<|Nh I<|Ak I<|Cs I<|Lm I<|Lq rfl Zb (Mv 4 I<|Ak I<|Af<|Cs I<|Mv 2 I<|LW I<|Ee [] (NN d p f) I call91 Tt<|λ_ _=>Pw (St _ _ ZKN)<|Ak I<|Pre.PY 27 I (λy=>?_)<|λy=>?_)
 .exact wT
 .refine Ab I (Cs I<|Mv 5 I<|Ak I<|Ab I<|Cr I<|Mv 2 I<|EJ Cz I Xf I<|Lo Yd 0 I<|Lm I<|Pm [3] I<|LW I<|Bp (Sc.ZA d.tok z.bt (i:Int)) I I I call94 I Tt<|λ_ _=>AE<|Zc ?_)
  have x:Ue N m i=1:=by unfold Ue;rw[pQ cZ,e]
  exact uY):=h
def HZ(h:p:=by exact λ_ h=>Rx):=h
def H8(h:p:=by exact Ax I I I zeroValue135<|λb=>Ce NZ.c I<|h (.bool false,b,[]) trivial):=h
def Jx(h:p:=by exact λ_ h=>h):=h
def LB(k:q)(h:q->p:=by exact λzz=>Cr I<|Ak I<|Ad<|Cs I<|Mv 2 I<|EJ Bu I Z3 I<|Lo G3 10 I<|Nk<|Af<|Ad<|Af<|Ad<|Af<|Ad<|Af<|Ad<|Af<|Ad<|Af<|Ad<|Af<|Ad<|Af zz):=h k
def LF(h:p:=by exact Av I I xm):=h
def No(k:q)(h:q->p:=by exact λzz=>Ay 8 I<|SW AK I Nc<|Ai (H2 5 4 I)<|An<|AQ<|Ae<|Pm [1] I zz):=h k
def N0(h:p:=by exact Ab I<|AP<|Aa<|Aa<|Ar<|Kt<|Cs I<|Lm I<|Ak I<|Al uc):=h
def N2(h:p:=by exact Aj I G3 I uP<|Ie.mid _ (j:=0) I):=h
def Po(k:q)(h:q->p:=by exact λzz=>Au<|Kt<|Cr I<|Lm I<|Lq I (Qi I)<|Nh I<|AE zz):=h k
def Rw(h:p:=by rw[z];decide):=h
def eg(h:p:=by exact Cr I<|Mv 4 I<|Lq I ZHA<|Pm [3,3,3] I<|LW I<|B5 yr I I I call79 I Tt<|λm _=>AE<|Au<|AW<|Pm [4,3,3] I<|Ae<|Ae<|Ae<|Bl I<|λ_ h=>⟨(m,0),rfl,T0,by rw[NF<|by unfold IL;rw[sS hk8];rfl];rw[qQ] at h;exact h⟩):=h
def eh(h:p:=by first|exact sS A1|exact sT A1|(rw[x];rfl)|(simp[x];done)|(simp;omega)):=h
def er(k:q)(h:q->p:=by exact λzz=>Sb 59 false I uU<|Ab I<|Ah<|Ks<|Cs I<|Lq I (Qe I)<|Ak I<|Sb 61 false I uU<|Ab I<|Ah<|Ks<|Cs I<|Lq I (Qe I)<|Ak I<|Sb 63 false I uU<|Ab I<|Ah<|Ks<|Cs I<|Lq I (Qe I)<|Ak I<|Sb 65 false I uU<|Ab I zz):=h k
def ez(h:p:=by
 refine List.forall_mem_cons.2 ⟨?_,?_⟩
 .refine⟨λ_=>rfl,λ_=>trivial,rfl,_,rfl,rfl,rfl,λσ R A=>?_⟩
  exact uf
 refine List.forall_mem_cons.2 ⟨?_,?_⟩
 .exact xF
 refine List.forall_mem_cons.2 ⟨?_,?_⟩
 .exact xF
 refine List.forall_mem_cons.2 ⟨?_,?_⟩
 .exact xF
 refine List.forall_mem_cons.2 ⟨?_,?_⟩
 .exact xF
 exact uQ):=h
def fh(h:p:=by
 refine List.forall_mem_cons.2 ⟨?_,?_⟩
 .refine⟨λ_=>rfl,λ_=>trivial,rfl,_,rfl,rfl,rfl,λσ R i=>?_⟩
  exact uf
 refine List.forall_mem_cons.2 ⟨?_,?_⟩
 .exact xG
 refine List.forall_mem_cons.2 ⟨?_,?_⟩
 .exact xG
 refine List.forall_mem_cons.2 ⟨?_,?_⟩
 .exact xG
 refine List.forall_mem_cons.2 ⟨?_,?_⟩
 .exact xG
 exact uQ):=h
def ft(k:q)(h:q->p:=by exact λzz=>Ab I<|Ah<|Kt<|Cs I<|Mv 2 I<|EJ Cz I Z3 I<|Lo G3 0 I<|Lq I (Qi I)<|Lc I<|EJ Cz I Z3 I<|LW I<|AB I I Z3 I I I (rO I)<|Ce [BM z.x.bh,BM z.bt,z.vT,z.vO,z.vE,am m.sq,aa ((m.pk+1:Nat):Int)] I<|Ns<|Cs I<|Mv 2 I<|EJ Cz I Tc I<|Lo VE 0 I<|Lm I<|Lq I (Aw ZIS I Ur Im I ue I I)<|Lq I (AO ZIS 0 I JV I I ue l I)<|Nk zz):=h k
def gd(h:p:=by exact λ_ h=>⟨y.keep h A3,x.keep h A3,h.at 0 rfl⟩):=h
def gg(h:p:=by simp;omega):=h
def hC(k:q)(h:q->p:=by exact λzz=>Ae<|Ai xd<|Aq 16 I xd uW<|Aq 17 I xd uW<|An<|Au<|Kt<|Cr I<|Lq I (Qi I)<|Lm I<|AE<|AQ<|Ae<|Pm [1] I zz):=h k
def hG(h:p:=by exact Cq (nv.c) AV AK 0 I (I)<|I):=h
def hI(h:p:=by exact Al Yu):=h
def hJ(k:q)(h:q->p:=by exact λzz=>Au<|Kt<|Cr I<|Lq I (Qi I)<|Lm I<|AE<|Ae zz):=h k
def hL(h:p:=by first|(simp only[Kv.oQ];decide)|(show 0+(Kv.c _).length<=(Kv.c _).length;rw[Kv.oQ,Kv.oQ];decide)):=h
def hM(h:p:=by exact BU (fn:=.func 0) (vs:=#[]) (us:=#[BM l]) 83 I Vu<|λa k=>by simp[k.eval (x:=.tmp 2) rfl]):=h
def hO(h:p:=by exact M.put i {vw f with pins:=(vw f).pins+1,ref:=true}):=h
def hQ(h:p:=by exact Sep.oR<|by first|(simp only[Kv.oQ];done)|(show (Kv.c _).length=(Kv.c _).length;rw[Kv.oQ,Kv.oQ])):=h
def hV(h:p:=by exact λ_ h=>⟨x.keep h A3,y.keep h A3⟩):=h
def hW(h:p:=by exact ⟨A4,A4,by dsimp only;(try rw[pK]);simp only[pz,sR];omega,by dsimp only;intro o A;simp only[rB,rU] at A;exact (Classical.em<|o=op).elim (λe=>e▸m)<|λe=>C o<|by simpa [e] using A⟩):=h
def hY(h:p:=by
 rintro⟨s,M⟩ ⟨O,_⟩
 have j:=O o
 dsimp only at j
 subst j
 exact CM<|Ai (λ_ h=>⟨h.at 1 rfl,h.at 5 rfl,a _<|y.m.keep h A3⟩)<|Cd<|MX I<|SW AK I Nc<|Ai (λ_ h=>⟨h.at 2 rfl,h.at 5 rfl,a _<|y.m.keep h A3⟩)<|Cd<|MX I<|SW AK I Nc<|Ai (λ_ h=>⟨h.at 3 rfl,h.at 5 rfl,a _<|y.m.keep h A3⟩)<|KC I<|OC I I uW<|AN<|Kt<|Al<|Pm [1,0,2] I<|Qh I wW xM (id I)<|λ_ h=>⟨(r,s),by rw[q];rfl,T0,by have t:=h.drop.drop.sublist<|tA.2<|tA.2<|sj _;rw[q] at t;exact t⟩):=h
def kj(h:p:=by exact h.at 1 I):=h
def km(h:p:=by first|rfl|(rw[z];rfl)):=h
def kr(h:p:=by
 refine Ao I<|Aa<|Ao I<|Aa<|Ao I<|Aa<|Ao I<|Aa<|xn ?_
 have d:r.pinned (x.hm.pin t r.lo).1=r:=Xh
 exact Ae<|Ae<|Ae<|Ae<|Ae<|Ae<|Ae<|Ae<|Ae<|Ae Xea):=h
def mx(h:p:=by
 refine AD<|Ae<|AD<|Ae<|AD<|Ae<|AD<|Ae<|AD<|Ae<|AD<|Ae<|AD<|Ae<|AD<|Ae<|AD<|Ae<|AD<|Ae<|Pm [3,3,3,3] I ?_
 exact Pm [4,4,4] I Xea):=h
def nj(h:p:=by
 refine⟨_,rfl,rfl,λσ R F K g h=>?_⟩
 refine E1 (DK z.d.kids (r.lo:Int) A1) I call203 yp ?_
 intro _ _
 rw[V]
 exact h (.bool false,0,[]) trivial):=h
def oX(k:q)(h:q->p:=by exact λzz=>Aq 5 I TQ uf<|Aq 6 I TQ (Qx I)<|Aq 7 I TQ (Qx I)<|Aq 8 I TQ (Qx I)<|Aq 9 I TQ (Qx I)<|Cd<|Ay 11 I<|SW AK I Nc<|Ai TQ<|Cd<|Ay 12 I<|SW AK I Nc<|Ai TQ<|Cd<|Ay 13 I<|AF I I MW I I Nw PU vA<|Ce (Rk nv).c wH<|Ai TQ<|Aq 14 I TQ uW<|An<|C3 zz):=h k
def oY(h:p:=by exact λ_ _ _=>trivial):=h
def oi(h:p:=by exact Bw (rs:=[.tmp 4,.tmp 5]) I I<|λ_ f=>⟨y,Zf,⟨b,(j.mono A1 o),dR⟩,by rw[hm];exact f⟩):=h
def oj(h:p:=by
 rintro L _
 refine Pre.world (St _ _<|_::_::HQ.H (x)) Ih ?_
 exact KC I<|OC I I uW<|AN<|Ks<|LZ (rg 13) 1062882 _ I St.drawn Ih<|Md 2 I<|Ht B1 I Z3 I<|Dq I dM<|Md 4 I<|Ht B1 I TN I<|Dq I (Aj I V5 I uq XG)<|Md 2 I<|KC I<|OC I I uW<|AN<|Kt<|Al<|Bw (rs:=[.tmp 6,.tmp 7,.tmp 8]) I I<|λ_ p=>⟨(L,x),congrArg ZI3<|I,⟨rfl,h,rfl⟩,p⟩):=h
def ot(h:p:=by
 have e:OD m=true:=by
  exact Xd1
 rw[e]
 exact Yu):=h
def pa(h:p:=by exact λb=>Ai XB<|Aq 9 I XB uW<|An<|Kt<|Al<|Ba (l':=Ek l m) (by rw[z];simp)<|Av I I<|λ_ h=>⟨b,rfl,T0,h.sublist<|tA.2<|sj _⟩):=h
def px(h:p:=by exact Ab I<|Ah<|Kt<|Cs I<|Lq I (Cq ([aa<|1+(k:Int)%4,.string t2,.string x,am b]) ZP U7 0 I (I)<|I)<|AD<|LW I<|AF rfl rfl U7 rfl rfl rfl yd bZ (Ce [aa<|1+(k:Int)%4,.string t2,.string x,am b] I<|Nk<|Al<|CE I (AL I ZP U7 uP<|I)<|λ_ h=>⟨⟨(1+(k:Int)%4),t2,x,b,XaH A1 A1,z⟩,rfl,ZDk,h.oS⟩)):=h
def py(h:p:=by exact AZ I I I):=h
def sk(k:q)(h:q->p:=by exact λzz=>Ay 13 I<|SW AK I Nc<|Ai Xn<|Aq 14 I Xn uW<|An<|Pm [0,1,1,1,1] I zz):=h k
def sv(h:p:=by simpa using h):=h
def tv(h:p:=by first|(rw[BV];exact rO I)|(rw[ua,BV];simp only[pz,sR];omega)):=h
def uA(h:p:=by exact EJ Dj I KK I<|Lq I (Aj I PJ I (λ_ h=>(CR.keep x h).c) I)<|Lm I<|Lq I (Aw k I Gm FT I x.l.kp I I)<|EJ MB I Z3 I<|Lq I (AO k 1 I G3 I I x.l.kp y I)<|LW I<|E1 (Fc a d q.2) I call194 jR<|λ_ _=>Lq I (Qg I)<|Lq I (Qz I)<|Ak I<|Al<|Av I I<|λ_ h=>⟨(),congrArg Eb (by rw[z,RG]; first|rfl|(rw[show decide (k=0)=false from sS A1]; rfl)|(rw[show decide (0<M.free)=false from sS A1,tu]; rfl)),T0,h.oS⟩):=h
def uB(h:p:=by
 refine Nk<|AP<|Ao I<|Aa<|Ao I<|Aa<|Ao I<|Aa<|Ar<|Ks<|LZ (rg 11) 118098 _ I St.drawn Ih<|Md 2 I<|Ht Bu I Z3 I<|Dq I vj<|Md 3 I<|Ht Bu I TN I<|Dq I wR<|Sz I<|KC I<|OC I I uW<|AN ?_
 exact Kt<|Al ZHO):=h
def uC(h:p:=by exact λ_ h=>CQ wG):=h
def uD(h:p:=by exact Dr nv [m] (Xeh i z)<|by show nv.d.msgs.length+1<=40000;omega):=h
def uE(k:q)(h:q->p:=by exact λzz=>AQ<|Ay 16 I<|SW AK I Nc<|Ai Vd<|BP<|Ay 17 I<|SW AK I Nc<|Ai Vd<|Aq 18 I Vd uW<|An<|Kt<|Af<|Cs I<|Lm I<|Ak I<|Am I<|Ad<|LZ (rg 11) 118098 _ I St.drawn Ih<|Md 3 I<|Ht Bu I Z3 I<|Dq I (Aj I G3 I (Ob 14 I) I)<|Md 2 I<|Ht Bu I Z3 I<|Dq I (Aj I G3 I (Ob 14 I) I)<|Dq I (Cq ((⟨ZKt,Bz z.d i⟩:NV).c) AV AK 1 I (I)<|I) zz):=h k
def XlN(k:q)(h:q->p:=by exact λzz=>Ak I<|Ad<|Cs I<|Lo DZ 0 I<|Lc I<|EJ Dg I Z3 I<|Lo G3 1 I<|ZHX zz):=h k
def uG(k:q)(h:q->p:=by exact λzz=>Lm I<|Nk<|Af zz):=h k
def uH(h:p:=by
 rintro y ⟨f,u,v⟩
 refine Pre.world (St _ _<|_ ::_ ::_ ::_ ::_::O5 j t (DU x.hm t r 0).2::HQ.H y) Ih ?_
 exact AE<|Au<|AW<|Ae<|Bl I<|λ_ z=>⟨y,rfl,by rw[hm];exact⟨f,u,v⟩,by rw[hm];exact z⟩):=h
def uI(h:p:=by rw[Ie.oQ];decide):=h
def uJ(h:p:=by first|decide|(show 0+(Ms.c _).length<=(Ms.c _).length;rw[Ms.oQ,Ms.oQ];decide)):=h
def uK(h:p:=by exact DN nv [m] (Xeg g z)<|by show nv.d.es.length+1<=60000;omega):=h
def uL(h:p:=by
 have e:VQ m t wr=false:=by first|(simp_all [VQ];done)|(unfold VQ;rw[show decide (m.q.length=0)=false from sS A1];simp)
 exact Av I I<|λ_ h=>⟨x,congrArg Eb e.symm,T0,by unfold Qp;rw[e];exact h⟩):=h
def uM(h:p:=by simp[Value.cells,Ms.oQ]):=h
def XlW(h:p:=by
 refine Bm (λ(i:Nat)=>[(0,pV bc),(1,aa t),(27,aa (S.fl.length:Int)),(28,aa (i:Int))]) ZIV (λ(i:Nat)=>i<=S.fl.length/\∀z∈M.fr.take i,XJ z=false) ZJr (0) ⟨qc _,A3⟩ (Si I) Ih<|λi o=>Ad ?_
 obtain⟨hi,x⟩:=o
 have u:=g.len
 have s:=v.n64
 refine Cr I<|Lq I (Ql I)<|Ns<|CB 29 I (λp=>?_)<|λp=>?_
 .obtain⟨f,a⟩:=gE S.fl i
  have n:=g.XU a
  refine Am I<|Ah<|Ks<|Af<|Cs I<|Lm I<|Ak I<|Cs I<|Mv 2 I<|EJ Dj I F4 I<|Lq I (Aj I GO I yk I)<|Lm I<|Lq I (Aw i I Fx Er I y.f.kp I I)<|EJ Ej I Z3 I<|Lq I (AO i 0 I G3 I I y.f.kp a I)<|Lq I (Qe I)<|Nk<|CB 39 I (λb=>?_)<|λb=>?_
  .exact Am I<|Cs I<|Mv 2 I<|EJ Dj I F4 I<|Lq I (Aj I GO I yk I)<|Lm I<|Lq I (Aw i I Fx Er I y.f.kp I I)<|Ak I<|Al<|AA<|Ag<|Ag<|AA<|Ag<|Av I I<|λ_ h=>⟨(),congrArg ZJC (by unfold Mo.takes; rw[pN m]; unfold Mo.ZE; rw[Db n (sT b) x]; rfl),T0,h.oS⟩
  .refine Tm ?_
   exact AJ (i+1) A1 ⟨A1,Fb x n<|sS b⟩ (Si I) Jx
 .exact Ab I<|AP<|Aa<|Aa<|Ar<|Kt<|Cs I<|Ak I<|Al<|Av I I<|λ_ h=>⟨(),congrArg ZJC (by unfold Mo.takes; rw[pN m]; unfold Mo.ZE; rw[pZ A1] at x; rw[DG x]; rfl),T0,h.oS⟩):=h
def uO(h:p:=by exact λ_ h=>h.1):=h
def uP(h:p:=by exact Ob 0 I):=h
def uQ(h:p:=by exact λ_ h=>wU):=h
def uR(h:p:=by
 rintro⟨s,a⟩ ⟨b,_⟩
 have x:=b A3
 dsimp only at x
 subst x
 refine CM<|Ai (H2 5 4 I)<|AD<|No ?_
 exact bT):=h
def uS(h:p:=by exact λ_ h=>h.2):=h
def uT(h:p:=by
 rintro⟨s,a⟩ ⟨b,_⟩
 have x:=b A3
 dsimp only at x
 subst x
 refine CM<|Ai (H2 5 4 I)<|AQ<|No ?_
 exact bT):=h
def uU(h:p:=by rw[z];rfl):=h
def uV(h:p:=by
 rintro⟨s,a⟩ ⟨b,_⟩
 have x:=b A3
 dsimp only at x
 subst x
 refine CM<|Ai UY<|Ay 7 I<|Ax I I I zeroValue135<|λy=>Ce NZ.c I<|Ai (H2 5 4 I)<|No ?_
 exact bT):=h
def uW(h:p:=by exact Az I I):=h
def uX(h:p:=by exact λw=>A6):=h
def uY(h:p:=by
 exact AJ (i+1) A1 A1 (Si I)<|λ_ h=>by
  show St w _ (HC.H z<|m.Sr<|Sc.o5 (oV N m i m.T) (i:Int)<|Ue N m i) _
  rw[x];exact h):=h
def uZ(h:p:=by exact λ_ h=>⟨(),rfl,T0,h.oS⟩):=h
def ub(h:p:=by
 refine DF ?_
 exact AJ ((j+1,y,a)) A4 A4 (Si I) Jx):=h
def uc(h:p:=by exact Av I I<|λ_ h=>⟨v,rfl,T0,h⟩):=h
def ue(h:p:=by exact SN 2 I):=h
def uf(h:p:=by exact AY I I):=h
def ug(k:q)(h:q->p:=by exact λzz=>Sb 26 true I HD<|EJ Bj I Z4 I<|Lo G4 0 I<|Mv 2 I<|Sb 30 false I (hl)<|Mv 5 I<|Ak I<|Ab I<|Cs I<|Mv 2 I<|EJ Bu I Z3 I<|Lo G3 5 I<|Mv 2 I<|Sb 45 true I HD<|EJ Bj I Z4 I<|Lo G4 0 I<|Lm I zz):=h k
def XlX(h:p:=by exact Ae<|Ae<|row0 154 Ms.enc none<|row0 77 dZ none<|row0 3 ds none<|row0 79 En.enc none<|Av I I<|λ_ h=>⟨(S,⟨n40,au⟩),Uw,⟨by rw[x];exact z,λ_ _ h=>h⟩,h⟩):=h
def ui(h:p:=by exact N r.up):=h
def uj(h:p:=by simp; omega):=h
def uk(h:p:=by
 exact λ_ h=>⟨(),congrArg ZIv (show b=QE a b from by
  unfold QE
  simp_all [Ms.setKind,Ms.SL,Ms.TA,Ms.ZL]),T0,h.oS⟩):=h
def Xds(h:p:=by
 unfold Oper.wp at h
 generalize (execOp a.eval o).run P w=r at h
 cases r with
 |ok x w' =>
  cases x with
  |value v=>exact h
  |skip=>exact h
  |defer d=>exact h
  |enter f args=>exact⟨λh=>wU,callsIn_wide.2 h⟩
  |row row args=>exact⟨λh=>wU,Pt h⟩
  |_=>exact h.elim
 |halt x w' =>
  cases x with
  |panic v=>exact h
  |_=>exact h.elim):=h
def uo(h:p:=by first|rfl|(simp only[rA,rI];omega)|(simp;omega)):=h
def uq(h:p:=by exact Ob 1 I):=h
def ur(h:p:=by exact SN 0 I):=h
def uv(h:p:=by exact λ_ h=>Du<|h.rd 0 I):=h
def Xdu(h:p:=by exact λ_ h=>⟨lg,⟨h.rd 6 rfl,h.rd 7 rfl,h.rd 8 rfl,h.rd 9 rfl⟩⟩):=h
def ux(h:p:=by exact Sep.oR<|by simp only[Kv.oQ,Ms.oQ]):=h
def uy(h:p:=by simp only[Kv.oQ,Ms.oQ]; decide):=h
def XlY(h:p:=by exact λ_ h=>⟨h.rd 0 rfl,c.keep h<|by simp[dom]⟩):=h
def vA(h:p:=by first|decide|(simp only[Kv.oQ];decide)|(show 0+(Kv.c _).length<=(Kv.c _).length;rw[Kv.oQ,Kv.oQ];decide)):=h
def Xdv(h:p:=by exact ⟨h.rd 3 rfl,h.rd 4 rfl,h.rd 5 rfl,h.rd 6 rfl⟩):=h
def vD(h:p:=by exact λf=>Ak I<|Al<|Ba (l':=Dw l m) (by rw[x,a];simp)<|Av I I<|λ_ h=>⟨f,rfl,T0,h.sublist<|tA.2<|sj _⟩):=h
def Xdw(h:p:=by
 refine⟨_,rfl,rfl,λσ R F K g h=>?_⟩
 exact H8):=h
def vH(h:p:=by rw[Wr.oQ];decide):=h
def vI(h:p:=by exact Av I I jU):=h
def vJ(k:q)(h:q->p:=by exact λzz=>Nk<|Cs I<|Lm I<|Nk<|Af<|Ad<|Cs I<|Lq I (Qe I)<|Ak I<|Sb 17 false I (I)<|Ab I<|Cr I<|dW zz):=h k
def vK(h:p:=by exact Sep.oR<|by first|rfl|(show (Ms.c _).length=_;rw[Ms.oQ,Ms.oQ])):=h
def vM(h:p:=by exact Av I I<|λ_ h=>⟨(),congrArg Eb (by first|(simp_all [Kg];done)|(simp_all [Kg];intros;omega)),T0,h⟩):=h
def Xdx(h:p:=by exact N r.lo):=h
def XlZ(h:p:=by exact Obj.cells #[Value.int IntKind.i64 0] 3):=h
def vV(h:p:=by exact AJ (i+1) A1 A1 (Si I) Jx):=h
def vW(h:p:=by simp only[FF];simp;omega):=h
def vX(k:q)(h:q->p:=by exact λzz=>LH 14 (.bool true) I Yr<|Lq I (Qt I)<|Nk<|Sb 15 false I (I)<|Ab I<|Ah<|Kt<|Cs I<|Lq I hM<|XlN zz):=h k
def vY(h:p:=by
 rw[rH,x]
 exact qA<|λj=>by
  rw[tb]
  split
  .rename_i e;subst e;split
   .rw[qq,h];rfl
   .rename_i hn;exact absurd (by simpa using (qp.1 h).1) hn
  .rfl):=h
def vZ(h:p:=by simp only[Kv.oQ];decide):=h
def vd(h:p:=by exact Cp I I I):=h
def ve(h:p:=by first|decide|(simp only[rA,rI];omega)):=h
def XdA(h:p:=by
 refine rh (v:=.tuple #[aa (-1),aa 0,.slice none 0 0]) ?_ rfl ⟨rfl,((((qT _ w).alloc (qb _) _).alloc iL _).alloc iL _).alloc iL _ |>.alloc iL _⟩
 simp[results,Tryz.f143,go_sem,y.cell,z.cell,a.cell]):=h
def vi(h:p:=by exact Sj dZ [Rk nv] I I<|Pm [5,5,1,0,2,1] I<|Gd I aC (AL I AV AK Ve<|I) (AL I AV AK TQ<|I) (id I)<|λ_ h=>⟨(y,z,⟨some ⟨bk,0,none⟩,2,2⟩,⟨some ⟨j,0,none⟩,1,1⟩),rfl,T0,h.sublist<|tA.2<|tA.2<|tA.2<|tA.2<|sj _⟩):=h
def vj(h:p:=by exact Aj I G3 I (Ob 10 I) I):=h
def Xl0(h:p:=by
 refine Bm (λ(u:Unit)=>[(5,C0),(6,aa 0),(7,aa 0)]) ZJ6 ZIy ZKK (()) trivial (Si I) Ih (λu _=>Cs I<|Lq I (Ql I)<|Ns<|Sb 8 false I (I)<|bP ?_)
 exact λ_ h=>⟨(),rfl,T0,h⟩):=h
def vn(h:p:=by exact Au<|Kt<|Cs I<|Lm I<|Ak I<|Al<|Av I I<|λ_ h=>⟨(),congrArg Ei (by unfold Qq; rw[pN hm]; split<;>(try split)<;>omega),T0,h.oS⟩):=h
def vq(h:p:=by exact Nk<|Cs I<|Mv 2 I<|Ak I<|Al<|Bw (rs:=[.tmp 4,.tmp 5]) I I<|λ_ h=>⟨y,by rw[pQ j],⟨g,by rw[a];exact d.oV N _⟩,by rw[a];exact h⟩):=h
def vt(h:p:=by exact λ_ h=>AR kj ds [(((G.ht 0:Int)+1-(G.ht b:Int))+1)] I I):=h
def vv(h:p:=by
 by_cases h0:t<0
 .rw[pN h0,pN h0]
 .rw[pQ h0,pQ h0]
  cases hc:cs[t.toNat]? with
  |some c=>rfl
  |none=>dsimp only;rw[h t e A1 hc]):=h
def vz(h:p:=by exact Av I I<|λ_ d=>⟨y,rfl,⟨a,e,f⟩,by dsimp only;rw[z];exact d⟩):=h
def wA(k:q)(h:q->p:=by exact λzz=>Au<|Kt<|Cr I<|Lq I (Qi I)<|Lm I<|AE<|AD<|Ae zz):=h k
def wB(h:p:=by exact Bx I I I):=h
def wC(h:p:=by first|rfl|(rw[g];rfl)):=h
def wD(h:p:=by exact Nq h6 U (b:=(r.lo:Int)) (i:=x.hm.fi r.lo) (by show z1.hm.M.Me _ 2=_;rw[C,Hm.ZM];exact x.hm.SV ql.1) (nv:=(⟨Ef f.d f.s<|(σ 9).2.2.getD 1 sv0,BG f.d<|MJ z.d i⟩:NV)) (by rw[C];exact ql.2) hft E<|λ_ h1 G h3 W=>aE _ hl h1 I I I G h3 W):=h
def wE(h:p:=by
 intro b
 exact h (.bool false,b,[]) trivial):=h
def wF(h:p:=by exact Cq (m.val.c) Tz O6 0 I (Ms.WU _) Nw):=h
def wG(h:p:=by exact h.at 0 I):=h
def wH(h:p:=by exact Sep.oR<|by first|rfl|(show (Kv.c _).length=_;rw[Kv.oQ,Kv.oQ])):=h
def wI(h:p:=by exact Sep.oR<|by simp only[Ms.oQ]):=h
def XdB(h:p:=by
 refine List.forall_mem_cons.2 ⟨?_,?_⟩
 .exact nj
 refine List.forall_mem_cons.2 ⟨?_,?_⟩
 .refine⟨_,rfl,rfl,λσ R F K g h=>?_⟩
  refine DD (LO z f i qi qr qd qo S N T Q qk E hft) I I I call202 I Xdu ?_
  exact ZHE
 exact ZAq):=h
def XdC(h:p:=by
 refine List.forall_mem_cons.2 ⟨?_,?_⟩
 .exact nj
 refine List.forall_mem_cons.2 ⟨?_,?_⟩
 .refine⟨_,rfl,rfl,λσ R F K g h=>?_⟩
  refine DD (Xer z f i qi qr qd qo S N T Q qk E hft) I I I call202 I Xdu ?_
  exact ZHE
 exact ZAq):=h
def wL(h:p:=by exact Aj I G3 I (λ_ h=>h.2.2.2.1) I):=h
def XdD(h:p:=by
 refine Ai RY<|Aq 5 I RY uf<|Aq 6 I RY (Qx I)<|Aq 7 I RY (Qx I)<|Aq 8 I RY (Qx I)<|Aq 9 I RY (Qx I)<|AQ<|Ay 11 I<|SW AK I Nc<|Ai RY<|AQ<|Ay 12 I<|SW AK I Nc<|Ai RY<|AQ<|Ay 13 I<|AF I I MW I I Nw PU hL<|Ce (z).c hQ<|Ai RY<|Aq 14 I RY uW<|An<|Cd ?_
 refine Pm [1,1,1,1] I ?_
 exact Bf ((g,a)) y (Si I) Jx):=h
def wN(k:q)(h:q->p:=by exact λzz=>Aq 0 I Tf X8<|Aq 1 I Tf uf<|Aq 2 I Tf (Aw 0 I KI Z3 I uS I I)<|Aq 3 I Tf (AO 0 0 I G3 I I uS (show (Q7 (x.s.al 2).1)[0]?=some (g:Int) by rw[j];rfl) I)<|Aq 4 I Tf uf<|Aq 5 I Tf (Aw 1 I KI Z3 I uS I I)<|Aq 6 I Tf (AO 1 0 I G3 I I uS (show (Q7 (x.s.al 2).1)[1]?=some (kb:Int) by rw[j];rfl) I) zz):=h k
def wO(k:q)(h:q->p:=by exact λzz=>Mv 2 I<|Nk<|Ab I<|Ah<|Ks<|Cs I<|Mv 2 I<|EJ BS I Z3 I<|Lq I N2<|Nk<|Af<|Cs I<|Lq I (Qe I)<|Ak I<|Sb 23 false I uU<|Ab I<|Cs I<|Lq I (Qe I)<|Ak I<|Sb 52 false I uU<|Ab I zz):=h k
def XdE(h:p:=by
 refine List.forall_mem_cons.2 ⟨?_,?_⟩
 .exact mM
 refine List.forall_mem_cons.2 ⟨?_,?_⟩
 .exact mM
 refine List.forall_mem_cons.2 ⟨?_,?_⟩
 .exact mM
 exact uQ):=h
def XdF(h:p:=by
 refine List.forall_mem_cons.2 ⟨?_,?_⟩
 .exact mO
 refine List.forall_mem_cons.2 ⟨?_,?_⟩
 .exact mO
 refine List.forall_mem_cons.2 ⟨?_,?_⟩
 .exact mO
 exact uQ):=h
def XdG(h:p:=by
 have y:m.cs[i]?=none:=pH A1
 refine Am I<|Ah<|Ks<|Af<|Cs I<|Lq I Zu<|Lq I (AO i 0 I JV I I ue j I)<|Ak I<|Cs I<|Lm I<|Lq rfl Zb (Mv 4 I<|Ak I<|Cs I<|Mv 6 I<|Nk<|Tm ?_)
 exact AJ (i+1) A1 ⟨A1,λd hd=>x d<|by rw[sH,y] at hd;simpa using hd⟩ (Si I) Jx):=h
def XdH(k:q)(h:q->p:=by exact λzz=>Lq I (Qe I)<|Ak I<|Sb 26 false I uU<|Ab I<|Cs I<|Lq I (Qe I)<|Ak I<|Sb 37 false I uU<|Ab I<|Cs I<|Lq I (Qe I)<|Ak I<|Sb 48 false I uU<|Ab I<|Cs I<|Lq I (Qe I)<|Ak I<|Sb 54 true I uU<|Am I<|Cs I<|Lo DZ 0 I<|Lc I<|EJ Dg I JC I<|Lo isAgg177 2 I<|Lm I<|Pm [0,1] I<|LW I<|Ee [_,_] (XaR h K o r D d N J) I call88 Tt zz):=h k
def wT(h:p:=by
 refine Am I<|Cr I<|Mv 2 I<|EJ Cz I Xf I<|Lo Yd 0 I<|Lm I<|Pm [3] I<|LW I<|Bp (Sc.XlS d.tok z.bt (i:Int)) I I I call92 I Tt<|λ_ _=>AE<|Zc ?_
 have x:Ue N m i=0:=by unfold Ue;rw[pN<|show FV N m i=true from y]
 exact uY):=h
def wU(h:p:=by cases h):=h
def wV(h:p:=by exact λ_ h=>h.2.1):=h
def wW(h:p:=by exact AL I AV AK uP<|I):=h
def XdI(k:q)(h:q->p:=by exact λzz=>EJ B1 I Z3 I<|Cd<|LW I<|AB I I Z3 I I I vH<|Ce ((⟨t,m,4,true,av,0⟩:Wr)).c YO<|Lc I<|EJ B1 I JC I<|LW I<|AB I I JC I I I vH<|Ce ((⟨t,m,4,true,(BM a),0⟩:Wr)).c yP<|Nk<|Cs I<|Ak I<|Al<|Ag<|Pm [1,0,7,7,7,7,7,7] I zz):=h k
def wY(k:q)(h:q->p:=by exact λzz=>Md 2 I<|Ht Bu I Z3 I<|Dq I X9<|Md 3 I<|Ht Bu I TN I<|Dq I (Aj I V5 I uP I)<|Sz I<|iU zz):=h k
def XlR(h:p:=by exact Aj I G3 I uP<|Wr.mid _ (j:=0) I):=h
def wa(k:q)(h:q->p:=by exact λzz=>Lq I (Qe I)<|Ak I<|Sb 26 false I uU<|Ab I<|Cs I<|Lq I (Qe I)<|Ak I<|Sb 37 false I uU<|Ab I<|Cs I<|Lq I (Qe I)<|Ak I<|Sb 48 true I uU<|Am I<|Cr I<|Lo DZ 0 I<|Mv 2 I<|Pm [2,2,2,2,2,2] I<|Pm [6,6] I<|LW I<|Ee [] (Xjt h K b l f j.n6 j.g6 G L) I call87 Tt zz):=h k
def wc(h:p:=by exact Ay 6 I<|B0 I I I BH BH DL I I I I I (λ_ h=>AR kj Ms.enc [(QE c m)] I I) vW gg<|λj=>Ai XB<|Ay 8 I<|B0 I I I BH BH DL I I I I I (λ_ h=>by have:=Cg (x.keep h A3) (lo:=i+1) (hi:=l.length) A1<|qb _;rwa[tg] at this) vW gg pa):=h
def we(h:p:=by exact Ae<|Ae<|Ae<|Ae<|Ae<|Bl I<|λ_ hh=>⟨q,rfl,⟨by rw[U,M],W,by rw[hm];exact C⟩,by rw[hm];rw[o] at hh;exact hh⟩):=h
def wg(h:p:=by first|rfl|(rw[y];rfl)|(rw[c];rfl)|(simp only[rI];omega)):=h
def wh(h:p:=by exact Ae<|Bl I<|λ_ z=>⟨x,rfl,by rw[hm];exact⟨rfl,h,rfl⟩,by rw[hm];exact z⟩):=h
def wi(h:p:=by exact Ae<|Bw (rs:=[.tmp 4,.tmp 5]) I I<|λ_ f=>⟨y,Zf,⟨b,j,dR⟩,by rw[hm];exact f⟩):=h
def wj(k:q)(h:q->p:=by exact λzz=>Ey func91 I k<|Cs I<|Ak I<|Ad<|Cs I<|Mv 2 I<|EJ Cz I Tc I<|Lo VE 0 I<|Lm I<|Lq I Zt<|Lq I (AO i 0 I JV I I RF f I)<|iQ zz):=h k
def wm(h:p:=by simp only[Ms.oQ];decide):=h
def wo(h:p:=by exact AJ ((i+1,n,q,o,(R++E6 nv.d))) A4 ⟨by dsimp only;rw[pK];omega,by dsimp only;rw[f];rw[f] at IM;exact IM,D⟩ (Si I) Jx):=h
def wu(k:q)(h:q->p:=by exact λzz=>Dq I (Aj I PM I uS I)<|Md 2 I<|Ht Cz I Wi I<|Dq I (Aj I Vs I uO I)<|Md 2 I<|Ht Cz I Qb I<|Dq I (Aj I Xa I uO I)<|MX I zz):=h k
def wv(h:p:=by exact Ay 6 I<|B0 I I I BH BH DL I I I I I (λ_ h=>AR kj Ms.enc [m] I I) vW gg<|λj=>Ai XB<|Ay 8 I<|B0 I I I BH BH DL I I I I I (λ_ h=>by have:=Cg (x.keep h A3) (lo:=i) (hi:=l.length) y<|qb _;rwa[tg] at this) vW gg pa):=h
def wx(h:p:=by exact Br I U3 U5 I<|BX):=h
def wz(h:p:=by rw[h];decide):=h
def XdK(k:q)(h:q->p:=by exact λzz=>Mv 3 I<|Nk<|Ab I<|Ah<|Ks<|Cs I<|EJ Ru I Z3 I<|Lo G3 2 I<|Lq I (Qe I)<|Nk<|Sb 61 true I HG<|Am I<|Cr I<|EJ Ru I Qb I<|Lo Xa 2 I<|EJ BR I Qb I<|LW I<|AB I I Qb I I I Za<|Bb (Ms.fQ _ _ o.wb)<|Nk<|Af zz):=h k
def xB(h:p:=by exact Aj I G3 I Ih I):=h
def xC(h:p:=by exact AL I Ck Bi uP OM):=h
def xD(h:p:=by rcases e with e|e<;>cases e):=h
def Xl1(h:p:=by exact Aj I G3 I Ih<|Wr.mid _ (j:=0) I):=h
def xF(h:p:=by
 refine⟨λ_=>rfl,λ_=>trivial,rfl,_,rfl,rfl,rfl,λσ R A=>?_⟩
 exact (BB I I I)):=h
def xG(h:p:=by
 refine⟨λ_=>rfl,λ_=>trivial,rfl,_,rfl,rfl,rfl,λσ R i=>?_⟩
 exact (BB I I I)):=h
def xH(h:p:=by exact AL I Tz O6 uP Nw):=h
def Xl2(h:p:=by exact List.replicate m a0):=h
def xJ(h:p:=by exact Bl I<|λ_ d=>⟨y,rfl,⟨c,e,f⟩,by rw[z];exact d⟩):=h
def XdL(k:q)(h:q->p:=by exact λzz=>LH 14 (.bool true) I Yr<|Lq I (Qt I)<|Nk<|Sb 15 false I (I)<|Ab I<|Ah<|Kt<|Cs I<|Lq I hM<|Ak I<|Ad<|Cs I<|Lo DZ 0 I<|Lc I<|EJ Dg I Z3 I<|Lo G3 2 I<|ZHX zz):=h k
def xL(h:p:=by exact ⟨_,f,g,y,.pass (x:=.inLoop c) rfl (λ_ _=>.inl A3) h⟩):=h
def xM(h:p:=by exact AL I AV AK uq<|I):=h
def xN(h:p:=by rw[pI];omega):=h
def Xl3(h:p:=by
 have j:Oy (.slice (some ZKP) l.length cap) ds.sz i l.length=.slice (some ZJ2) (l.length-i) (cap-i):=by simp[Oy,BT,show ¬cap=i by omega,z]
 rw[j] at p
 simpa using p):=h
def xP(h:p:=by simp[Value.cells,Kv.oQ]):=h
def XdM(h:p:=by
 have z:ms.take i=ms:=pZ A1
 rw[z]
 exact Ab I<|AP<|Aa<|Aa<|Ar<|Kt<|Cs I<|Lm I<|Ak I<|Al<|Av I I<|λ_ h=>⟨(v,x),rfl,⟨λf=>d (by have:=sM.2 f;omega),λe=>⟨(y e).1,pR (by have:=(y e).2;omega)⟩⟩,h⟩):=h
def XdN(h:p:=by exact Ab I<|AP<|Aa<|Aa<|Ar<|Kt<|Cs I<|Mv 3 I<|Lq I (O0 i i I BH Bi I x.kp I I I I (qb _) A1)<|Ak I<|Al<|Av I I<|λ_ h=>⟨_,rfl,λj y=>by have:=XaS y (i:=0) (m:=i) A1 A1;unfold YT;rw[z];exact this,h⟩):=h
def xS(h:p:=by exact Cq ((⟨t,m,3,true,av,0⟩:Wr).m.c) Ck Bi 1 I (Wr.kW _) OM):=h
def xT(h:p:=by exact Cq (m.c) Ck Bi 0 I (BF _) OM):=h
def XdO(h:p:=by simp only[Kv.oQ]):=h
def xV(k:q)(h:q->p:=by exact λzz=>Sb 20 false I eh<|Mv 6 I<|EJ BR I Z3 I<|Lo G3 0 I<|Mv 2 I<|Sb 30 true I eh<|EJ BR I O6 I<|Lq I wF<|Lq I Yk<|Lq I (YY (m.val) ((Na 16)) I I I)<|Mv 2 I<|Nk<|Sb 36 false I eh<|Ab I<|Ah<|Kt<|Cs I zz):=h k
def xW(h:p:=by simp only[pK,pz,sR]; omega):=h
def xX(h:p:=by exact Am I<|Cs I<|Ak I<|Al<|Ag<|Av I I<|λ_ h=>⟨(),congrArg Eb (by unfold Tq;rw[sS A1];rfl),T0,h⟩):=h
def Xl4(h:p:=by exact Obj.cells #[Value.int IntKind.i64 (-1)] 3):=h
def XdP(h:p:=by
 intro listed a w _ _ m C s H
 refine⟨λh=>uw,λj hj=>?_⟩
 by_cases hji:j=i
 .subst hji; exact wS
 .have:=ready_mono hj hji
  rw[H.1] at this
  cases this):=h
def xa(h:p:=by show 0+(Ms.c _).length<=(Ms.c _).length;rw[Ms.oQ,Ms.oQ];decide):=h
def xb(h:p:=by exact Ab I<|AP<|Aa<|Aa<|Ar<|Kt<|Cs I<|Lm I<|Ak I<|Al<|Av I I<|λ_ h=>⟨⟨B,q0,q1,q2,q3,d,g,f,k⟩,rfl,⟨⟨λh=>qM D<|L.2 h,λh=>qM G<|J.2 h,λh=>qM F<|H.2 h,λh=>qM K<|M.2 h⟩,C⟩,h⟩):=h
def xc(h:p:=by have:=Cg (x.keep h A3) (lo:=0) (hi:=i) (qc _) y;rwa[pU] at this):=h
def xd(h:p:=by exact Ob 2 I):=h
def xe(h:p:=by exact Bl I<|λ_ hh=>⟨q,rfl,⟨by rw[Z,h6],h3,by rw[hm];exact C⟩,by rw[hm];rw[G] at hh;exact hh⟩):=h
def xf(h:p:=by have h:=G.perm sV;exact⟨h.at 1 rfl,h.at 0 rfl,h.at 10 rfl⟩):=h
def xg(h:p:=by exact Xee I I I):=h
def xh(h:p:=by rw[hd];rfl):=h
def xi(h:p:=by exact λ_ h=>AR Wj ds [(((G.ht 0:Int)+1-(G.ht b:Int))+1)] I I):=h
def xj(h:p:=by exact Ak I<|Al LF):=h
def xk(h:p:=by simp at e):=h
def xm(h:p:=by exact λ_ h=>⟨(),rfl,T0,h⟩):=h
def xn(k:q)(h:q->p:=by exact λzz=>Ao I<|Aa<|Ao I<|Aa<|Ar<|Ks<|LZ (rg 11) 118098 _ I St.drawn Ih<|Md 2 I<|Ht Bu I Z3 I<|Dq I vj<|Md 3 I<|Ht Bu I TN I<|Dq I wR<|Sz I<|iU zz):=h k
def xo(h:p:=by exact Obj.cells #[Value.slice none 0 0] 159):=h
def xp(k:q)(h:q->p:=by exact λzz=>Cr I<|Lq I (Qe I)<|Ak I<|Sb 89 false I wC<|Ab I<|Cr I<|Lq I (Qe I)<|Ak I<|Sb 89 false I wC<|Ab I<|Cs I<|Lq I (Qe I)<|Ak I<|Sb 98 false I wC<|Ab I<|Ah<|Au<|Kt<|AP<|Ao I<|Aa<|Ao I<|Aa zz):=h k
def XdQ(h:p:=by
 rintro⟨y,p⟩ ⟨z,f,i⟩
 dsimp only at z f i
 refine Pre.world (St _ _<|_::HQ.H y) Ih ?_
 exact AN<|AW<|Bl I<|λ_ b=>⟨y,rfl,⟨z,f,by rw[hm];exact i⟩,by rw[hm];exact b⟩):=h
def xr(h:p:=by
 rintro⟨y,z⟩ _
 refine Pw (St _ _<|Ct y (Ri nv)::Ct z (Rh nv)::_) ?_
 refine Ai TQ<|oX ?_
 refine Pm [4,4,1,1,1,1] I ?_
 exact Bf ((y,z,a)) trivial (Si I) Jx):=h
def xt(k:q)(h:q->p:=by exact λzz=>VG 15 [0,1,3,4,5,9,10,11,12,13,14,6,7,8,2] I<|KC I<|Ee [_,_,_,_,_,_,_,_,_,_,_] (Xu h U (x.hm.SV Y.1) (nv:=(⟨ZKt,Bz z.d i⟩:NV)) Y.2 x1 h9) I call204 Tt zz):=h k
def xu(h:p:=by dsimp only; omega):=h
def xv(h:p:=by exact Lo G3 0 I<|Lo G3 1 I<|Lq I (Qe I)<|Ak I<|Al<|Av I I oC):=h
def XdR(h:p:=by
 refine⟨_,rfl,rfl,λσ R F K A h=>?_⟩
 refine E1 (DK f.d.kids (r.lo:Int) A1) I call203 aF ?_
 intro _ _
 rw[x7]
 exact h (.bool false,0,[]) trivial):=h
def xx(h:p:=by exact λ_ h=>⟨h.at 11 rfl,h.at 10 rfl,h.at 20 rfl,h.rd 9 rfl⟩):=h
def xy(h:p:=by exact Cq (m.key.c) OO MW 0 I Wq Nw):=h
def xz(h:p:=by exact λ_ h=>⟨f.keep h,AR wG Ms.enc [m] I rfl⟩):=h
def XlT(h:p:=by exact λ_ h=>⟨g.keep h,AR wG Ms.enc [m] I rfl⟩):=h
def yB(h:p:=by exact λ_ h=>⟨h.at 10 rfl,h.at 9 rfl,h.at 19 rfl,h.rd 8 rfl⟩):=h
def Xl5(h:p:=by exact λ_ h=>⟨CR.keep z h,h.at 0 rfl⟩):=h
def yD(h:p:=by exact .inl ⟨rfl,rfl⟩):=h
def yE(h:p:=by exact H2 0 1 I):=h
def yF(h:p:=by simp at h):=h
def yG(k:q)(h:q->p:=by exact λzz=>Ai Xn<|Aq 9 I Xn uf<|Aq 10 I Xn (Qx I)<|Aq 11 I Xn (Qx I)<|sk zz):=h k
def yH(h:p:=by exact Dz I Ji I Xem I I):=h
def yI(h:p:=by exact λ_ h=>h.2.2.2.2):=h
def yJ(h:p:=by exact λ_ h=>⟨h.rd 1 rfl,h.rd 2 rfl,h.rd 3 rfl,h.rd 4 rfl⟩):=h
def XdS(h:p:=by exact Ak I<|Al<|Av I I<|λ_ h=>⟨(),congrArg Eb (by first|rfl|exact sT z),T0,h.oS⟩):=h
def yM(h:p:=by exact Bv i I ZT Z5 I I I):=h
def XdT(h:p:=by exact Dh<|Di<|Ad<|Ah<|Kt<|Cs I<|Mv 2 I<|EJ BS I Z3 I<|Lq I N2<|Lq I (Qe I)<|Ak I<|Al<|C7 ZDP):=h
def XdU(k:q)(h:q->p:=by exact λzz=>Sb 35 false I km<|Ab I<|Cr I<|Lq I (Qe I)<|Ak I<|Sb 35 false I km<|Ab I<|Cs I<|Lq I (Qe I)<|Ak I<|Sb 44 false I km<|Ab I<|Ah<|Au<|Kt<|Hs<|C6<|Dh<|Di<|Ad<|Ah<|Kt<|Cs I zz):=h k
def XdV(k:q)(h:q->p:=by exact λzz=>Sb 48 false I HG<|Mv 3 I<|Nk<|Ab I<|Ah<|Ks<|Cs I<|EJ Ru I Z3 I<|Lo G3 2 I<|Lq I (Qe I)<|Nk<|Sb 61 false I HG<|Ab I<|Ah<|Kt<|Af<|Cs I<|Mv 2 I<|Ak I<|Sb 71 false I HG<|Ab I zz):=h k
def yQ(h:p:=by exact Cq ((⟨s,(x.q.M.at' i).nd⟩:NV).c) AV AK 1 I (I)<|I):=h
def yR(k:q)(h:q->p:=by exact λzz=>Lq I (Ql I)<|Ns zz):=h k
def Xl6(h:p:=by exact λ_ h=>⟨h.at 0 rfl,h.at 4 rfl,a _<|y.m.keep h A3⟩):=h
def XdW(k:q)(h:q->p:=by exact λzz=>Sb 13 false I km<|Ab I<|Cr I<|Lq I (Qe I)<|Ak I<|Sb 13 false I km<|Ab I<|Cs I<|Lq I (Qe I)<|Ak I<|Sb 22 false I km<|Ab I<|Ah<|Au<|Kt<|Cs I<|Ak I<|Al<|Pm [2,2,2,2,2] I zz):=h k
def Xl7(h:p:=by exact LW I<|B0 I I I O8 O8 Ep I I I I I (λ_ h=>by have:=Cg (y.keep h A3) (lo:=i+1) (hi:=l.length) A1<|qb _;rwa[tg] at this) (by simp only[Jo];simp;omega) gg vD):=h
def XdX(h:p:=by exact LW I<|B0 I I I O8 O8 Ep I I I I I (λ_ h=>by have:=Cg (y.keep h A3) (lo:=i) (hi:=l.length) b<|qb _;rwa[tg] at this) (by simp only[Jo];simp;omega) gg vD):=h
def yW(h:p:=by show (⟨q.M,_,_,_⟩:Hm)=⟨_,_,_,_⟩;rw[hm];rfl):=h
def yX(h:p:=by exact λ_ h=>AR kj ds [x] I I):=h
def yY(h:p:=by exact Gu (l:=[97+(k:Int)/8%6]) I O7 U5 U9 I<|λ_ h=>AR wG dt [97+(k:Int)/8%6] I I):=h
def XdY(k:q)(h:q->p:=by exact λzz=>Cr I<|Mv 2 I<|EJ Dj I Wu I<|Lo isAgg254 10 I<|Lm I<|PW<|LW I<|IV b I I TC LY I I<|Nk<|Cs I<|Mv 2 I<|Ak I<|Al<|C3<|Ae<|Pm [9,9,1,8,0,7] I<|Pm [6,6,6,6,6,6,6] I zz):=h k
def ya(h:p:=by exact Hc 1 0 10 I):=h
def yb(h:p:=by
 refine Ax I I I zeroValue135<|λy=>Ce NZ.c I<|Ai UY<|Ay 6 I<|Cf uD I I I I call296 I ZHI ?_
 exact uR):=h
def XdZ(h:p:=by
 refine Ax I I I zeroValue135<|λy=>Ce NZ.c I<|Ai UY<|Ay 6 I<|Cf uK I I I I call297 I ZHH ?_
 exact uR):=h
def yd(h:p:=by intro v y;simp only[pj,rX,rY] at y;rcases y with rfl|rfl|rfl|rfl<;>rfl):=h
def ye(h:p:=by simpa [dom,Ac] using d):=h
def yf(h:p:=by
 exact AJ ((i+1,A)) A4 A4 (Si I)<|λ_ h=>by
  dsimp only
  rw[m,pK,<-qS]
  exact h):=h
def yg(h:p:=by exact Ak I<|Al<|Av I I<|λ_ h=>⟨(),congrArg Eb (by simp_all [idleB]),T0,h⟩):=h
def yh(h:p:=by first|exact sS A1|exact sT A1|(rw[y];rfl)|(simp[y];done)|(simp;omega)):=h
def yi(h:p:=by exact Cq ((⟨s,x.hm.no r.up⟩:NV).c) AV AK 0 I (I)<|I):=h
def yj(h:p:=by exact Sep.oR<|by show (Ms.c _).length=_;rw[Ms.oQ,Ms.oQ]):=h
def yk(h:p:=by exact λ_ h=>(CR.keep y h).c):=h
def ym(h:p:=by unfold Mo.at';rw[sY];obtain⟨z,o,_⟩:=Dd (Eg l).1;rw[o];exact ry o):=h
def yn(h:p:=by exact Ak I<|Al<|Av I I<|λ_ h=>⟨(),congrArg Eb (by simp[V4, *]),T0,h⟩):=h
def yo(h:p:=by exact Cq (k.c) OO MW 1 I (Bq _) Nw):=h
def yp(h:p:=by exact SN 3 I):=h
def yq(h:p:=by exact λ_ h=>⟨_,h.at 0 rfl,Ie.kW _,Ie.XcN _⟩):=h
def yr(h:p:=by exact HT g k l j i f sq pk (ev++[(⟨t,(nx:Int),false,Jn⟩:O1)]) (by rw[pK];show ev.length+1<=60000;omega) b nx e t a _ _ (⟨2,false,Na 16⟩:Ans)):=h
def yt(h:p:=by
 refine⟨λ_=>rfl,λ_=>trivial,rfl,_,rfl,rfl,rfl,λσ R g=>?_⟩
 exact (BB I I I)):=h
def Xd0(h:p:=by
 obtain⟨j,e,hj⟩:=Jv vs 0 i v a
 have:i=j:=A1
 subst this
 have x:i<vs.length:=(qp.1 hj).1
 simp[Array.getElem?_append,x]
 simpa [pE x] using hj):=h
def yv(h:p:=by first|rfl|exact sT A1|(simp only[rA];omega)):=h
def yw(h:p:=by exact Ci I I I):=h
def Xl8(h:p:=by exact λ_ h=>⟨h.rd 1 rfl,c.keep h<|by simp[dom]⟩):=h
def yy(h:p:=by exact λ_ h=>⟨h.rd 2 rfl,c.keep h<|by simp[dom]⟩):=h
def yz(h:p:=by exact Mv 2 I<|EJ BS I Z3 I<|Lq I N2<|Lq I (Qe I)<|Ak I<|Al<|C7<|Av I I<|λ_ e=>⟨y,Y9,⟨a,f,i⟩,by dsimp only;rw[z];exact e⟩):=h
def zA(h:p:=by simpa [dom,Ac] using z):=h
def zB(h:p:=by exact Bl I<|λ_ h=>⟨(),rfl,T0,by rw[x];exact h⟩):=h
def Xd1(h:p:=by
 unfold OD
 rcases (show m.kind=1\/m.kind=2\/m.kind=3\/(¬m.kind=1/\¬m.kind=2/\¬m.kind=3) by omega) with e|e|e|e<;>first|(exfalso; omega)|simp_all):=h
def zD(h:p:=by first|rfl|exact y|exact sT A1|(rw[x];rfl)):=h
def zE(h:p:=by exact AJ ((i+1,q,m)) A4 A4 (Si I) Jx):=h
def zF(k:q)(h:q->p:=by exact λzz=>Cs I<|Ak I<|Af zz):=h k
def zG(h:p:=by exact .inl ⟨none,rfl,rfl⟩):=h
def Xd2(h:p:=by
 cases hx:l.drop i with
 |nil=>rfl
 |cons x xs =>
  have:l[i]?=some x:=by rw[<-List.head?_drop,hx];rfl
  rw[tJ,pQ<|by simpa using a x this]):=h
def zI(k:q)(h:q->p:=by exact λzz=>AD<|Ae<|Nh I<|AE<|HO zz):=h k
def Xd3(h:p:=by exact AS ((⟨⟨sv0,⟨some ⟨bk,0,none⟩,2,2⟩,⟨some ⟨j,0,none⟩,1,1⟩,sv0⟩,⟨false,[],[f,x],[Rk nv],[]⟩⟩:NV).c) I I uX):=h
def Xd4(h:p:=by exact Bw (rs:=[.tmp 4,.tmp 5]) I I<|λ_ h=>⟨(),by show _=Ending.returned (Value.tuple #[_,Value.bool<|RP Ms.key l k]);rw[y],T0,h.oS⟩):=h
def Xd5(h:p:=by exact AS ((⟨⟨sv0,⟨some ⟨bk,0,none⟩,2,2⟩,⟨some ⟨i,0,none⟩,1,1⟩,sv0⟩,⟨false,[],[d,x],[z],[]⟩⟩:NV).c) I I uX):=h
def zM(h:p:=by exact Av I I<|λ_ h=>⟨x,rfl,T0,h⟩):=h
def Xd6(h:p:=by exact Bf (e) trivial (Sub.cons I<|Sub.cons I<|Sub.cons I<|Sub.cons I<|Sub.cons I<|Sub.cons I<|Sub.RJ I (by rw[Xh8]) Sub.nil) Jx):=h
def zO(h:p:=by exact Nk<|Cs I<|Lm I<|Ak I<|Al<|Av I I<|λ_ h=>⟨d,rfl,T0,h⟩):=h
def zP(h:p:=by
 refine (h.dk c n).imp (fun⟨i,g,x,h1,z,h3⟩=>⟨i,g,(BN y).2<|.inr ⟨λe=>?_,x⟩,h1,z,h3⟩) id
 subst e;rw[a] at x;cases x;omega):=h
def zQ(h:p:=by exact By I I):=h
def zR(h:p:=by have e1:((k.toNat:Nat):Int)=k:=Int.toNat_of_nonneg g;show _=[_,_,_,_,aa ((k.toNat:Nat):Int),_,_,_,_];rw[e1];rfl):=h
def zS(k:q)(h:q->p:=by exact λzz=>KC I<|OC I I (Qz I)<|KC I<|OC I I (Qz I)<|AN<|Kt<|YM zz):=h k
def Xd7(h:p:=by
 have L:=(mem_ready.1 m).1
 rcases pG i listed.size with G|G
 .simp[G] at L p; rw[L] at p; cases p
 .simp[qN G] at p):=h
def zU(h:p:=by exact Aj I G3 I uO I):=h
def Xd8(h:p:=by
 clear h
 go_enter Tryz.func316,Tryz.ntmps316
 go_wp2
 go_quiet (fail)
 go_wp2
 go_ret
 exact⟨rfl,Lk ((qT _ _).alloc (qb _) _) _⟩):=h
def zW(h:p:=by first|rfl|(simp only[IntKind.wrap];omega)|exact Co A1):=h
def Xd9(k:q)(h:q->p:=by exact λzz=>Ay 11 I<|AF I I Bi I I OM RZ uJ<|Ce ((Ea (x.q.M.at' i).nd.msgs r.k).1).c vK<|Ai YC<|Aq 12 I YC uW<|An zz):=h k
def Xea(h:p:=by exact Bw (rs:=[.tmp 4,.tmp 5]) I I<|λ_ f=>⟨y,by dsimp only;rw[hm,d],⟨b,j,dR⟩,by rw[hm,d];exact f⟩):=h
def zZ(h:p:=by cases e):=h
def za(h:p:=by rintro (e|e);exact e2 e;exact e1 e):=h
def zc(h:p:=by rw[x];rfl):=h
def zd(h:p:=by rw[y];rfl):=h
def ze(k:q)(h:q->p:=by exact λzz=>KC I<|OC I I (Qz I)<|AN<|Kt<|Ab I<|Ah<|Au<|Kt<|Cr I<|Lm I<|Lq I (Qi I)<|Nh I<|AE<|Ae<|AQ<|Ae<|AQ<|Ae<|AQ<|Ae<|AQ<|Ae zz):=h k
def zf(h:p:=by exact Am I<|Cs I<|Ak I<|Al<|Ag Yu):=h
def zg(h:p:=by exact Av I I<|λ_ A=>⟨(E,y),by dsimp only;rw[hm,m]<;>rfl,⟨c,q.mono A1 D,Zk⟩,by rw[hm,m];exact A⟩):=h
def Xeb(k:q)(h:q->p:=by exact λzz=>Am I<|Cr I<|Mv 2 I<|EJ Bu I Z3 I<|B7<|LW I<|AB I I Z3 I I I (rO I)<|Ce (Rn t ({r with a:=6}:Rm)) I<|AE<|Au<|AW<|Pm [9,9,9] I zz):=h k
def zi(h:p:=by
 by_cases h0:t<0
 .rw[pN h0,pN h0]
 .rw[pQ h0,pQ h0,h t e A1,y]):=h
def zj(h:p:=by
 subst e
 by_cases h12:f.st=1\/f.st=2
 .exact .inl ⟨h12,rfl,rfl,rfl⟩
 .exact .inr ⟨λe=>absurd e h12,h12⟩):=h
def zk(h:p:=by
 unfold lby S9 at *
 simp only[qG,tZ]
 omega):=h
def zl(h:p:=by simp only[Jo];omega):=h
def zm(h:p:=by exact AH ((Ie.k r).c) I OO MW I uO (Ie.fA _) Nw):=h
def zn(h:p:=by exact Ak I<|Al<|Av I I<|λ_ h=>⟨(),congrArg Eb A3,T0,h⟩):=h
def zo(h:p:=by exact Bf (_) tv (Si I) Jx):=h
def zp(h:p:=by exact E3 I JA I I):=h
def zq(h:p:=by exact Hd 1 I x.kp):=h
def zr(h:p:=by first|rfl|exact z|exact sS A1|(rw[z];rfl)|simp_all):=h
def zt(k:q)(h:q->p:=by exact λzz=>Ao I<|Aa<|Ao I<|Aa<|Ao I<|Aa<|Ao I<|Aa<|Ao I<|Aa<|Ao I<|Aa zz):=h k
def zu(h:p:=by
 have e:i=xs.length:=by omega
 subst e
 rw[pZ<|qb _]
 exact N0):=h
def zw(h:p:=by exact Cq (k.c) OO MW 0 I (Bq _) Nw):=h
def Xec(k:q)(h:q->p:=by exact λzz=>Cs I<|EJ Ru I Z3 I<|Lo G3 2 I<|Lq I (Qe I)<|Nk<|Sb 61 false I HG<|Ab I<|Ah<|Kt<|Af<|Cs I<|Mv 2 I<|Ak I<|Sb 71 true I HG zz):=h k
def Xed(h:p:=by exact Gu (l:=[97+(k:Int)/8%5,97+(k:Int)/40%4]) I O7 U5 U9 I<|λ_ h=>AR wG dt [97+(k:Int)/8%5,97+(k:Int)/40%4] I I):=h
def Uu(h:p:=by exact Ob 3 I):=h
def Yj(h:p:=by show 4<5;decide):=h
def lT(h:p:=by exact λ_ h=>Cg (h.rd 0 I) (lo:=i+1) (hi:=l.length) A1<|qb _):=h
def ZAD(h:p:=by
 rcases pG i j with y|c
 .exact Cm (CV e i j a b y z x)<|qP h
 .have:i=j:=by omega
  subst this;rw[z] at x;cases x;exact h):=h
def VI(h:p:=by exact H2 3 2 I):=h
def ZAF(h:p:=by
 refine Md 22 I<|AN<|Kt ?_
 exact Al<|Av I I<|λ_ h=>⟨(),congrArg Eb (by unfold Mo.SY; rw[x]; rfl),T0,h.oS⟩):=h
def ZAG(h:p:=by
 refine y k ok R E ?_ F
 by_cases hjk:j=k
 .subst hjk; exact f
 .rw[getD_set_ne true hjk] at r; exact r):=h
def lU(h:p:=by exact KC I<|OC I I uW<|AN<|Kt<|Al LF):=h
def bK(h:p:=by exact λa=>by simp[execOp,z]):=h
def ZAJ(h:p:=by
 refine Ab I<|Ah<|Au<|Po ?_
 exact AJ (i+1) A1 ⟨A1,by rw[Cv y d x z A1 A1 e,pQ A1,pQ A1]⟩ (Si I) Jx):=h
def gQ(h:p:=by unfold Addr.add; split<;>simp_all):=h
def lV(h:p:=by
 rw[pQ (by rw[CP k y]; simp),hd]
 exact h _ _ (k.put undef z) x):=h
def gU(h:p:=by exact λ_ h=>AR Wj D5 [f.ref] I I):=h
def ZAN(h:p:=by exact AS ([.slice y (List.replicate n Bk.zero).length z,.slice a (List.replicate n false).length x]) I I uX):=h
def gV(h:p:=by dsimp only;rw[<-sD] at h;exact h):=h
def gW(h:p:=by rw[qC,CX]; simp[binOp,Op.intCmp]):=h
def bP(k:q)(h:q->p:=by exact λzz=>Ab I<|AP<|Aa<|Aa<|Ar<|Kt<|Cs I<|Lm I<|Ak I<|Al<|Av I I zz):=h k
def ZAR(h:p:=by exact Ak I<|Al<|Bw (rs:=[.tmp 4,.tmp 5]) I I<|λ_ h=>⟨(i,false),rfl,⟨hj,y,λc=>a i (qb _) c⟩,h⟩):=h
def ZAS(h:p:=by exact Am I<|Cs I<|Ak I<|Al<|Ag<|Ae<|Av I I<|λ_ h=>⟨S,Uw,⟨by rw[x];exact a,λ_ h=>h⟩,h⟩):=h
def ZAT(h:p:=by exact Hc 5 6 0 I):=h
def ZAU(h:p:=by exact λ_ h=>⟨(g,⟨some ⟨bk,0,none⟩,2,2⟩,⟨some ⟨i,0,none⟩,1,1⟩),rfl,y,h.drop.drop.drop⟩):=h
def VY(h:p:=by exact .inl rfl):=h
def VZ(h:p:=by exact .inr rfl):=h
def Va(h:p:=by exact λ_ h=>h.2.2):=h
def X8(h:p:=by exact AH (nv.c) I AV AK I uO (I)<|I):=h
def RF(h:p:=by exact SN 1 I):=h
def RY(h:p:=by exact Ob 4 I):=h
def ZAb(h:p:=by exact Cs I<|Ak I<|Cs I<|Mv 2 I<|EJ D6 I Jl I<|Lo LX 0 I<|Lq I ZDq<|Lm I<|Sb 8 false I (I)<|Mv 2 I<|EJ D6 I Il I<|Lo PM 0 I<|Lq I xZ<|Lq I (Qz I) xj):=h
def ZAc(h:p:=by exact Lq I (Gu (l:=k.b.take m) I O7 U5 U9 I<|λ_ h=>JW wG dt (k.b.take m) xN A1<|Xju k)<|Ak I<|Al<|Av I I<|λ_ h=>⟨strOfNums<|k.b.take m,rfl,cL _ xN,h.oS⟩):=h
def Zb(h:p:=by exact CJ rfl JD uQ rfl A2 zeroValue103):=h
def Zc(k:q)(h:q->p:=by exact λzz=>Au<|Au<|Kt<|Cr I<|Lq I (Qi I)<|Lm I<|AE<|Pm [1,1,1] I zz):=h k
def Tm(k:q)(h:q->p:=by exact λzz=>Ab I<|Ah<|HO zz):=h k
def U8(h:p:=by rw[z]):=h
def gX(h:p:=by exact show Sep.splice _ 0 (x).c=(x).c from Sep.oR XdO):=h
def Yk(h:p:=by exact AS ((Na 16).c) I I uX):=h
def UY(h:p:=by exact H2 4 3 I):=h
def Vx(h:p:=by simp at hd):=h
def TQ(h:p:=by exact Ob 6 I):=h
def X9(h:p:=by exact Aj I G3 I uP I):=h
def ZAn(k:q)(h:q->p:=by exact λzz=>Am I<|Cs I<|Lq I (Cq (b.c) Ck Bi 1 I (BF _) OM)<|LW I<|AF I I Bi I I OM RZ uy<|Ce b.c ux<|Nk<|Al<|Ag<|CE I xC zz):=h k
def ZAo(h:p:=by exact AQ<|LW I<|SW AK I Nc<|Nk<|Al<|AQ<|CE I xM<|λ_ h=>⟨(s,y),rfl,f,h.sublist<|tA.2<|sj _⟩):=h
def gY(h:p:=by exact Ab I<|AP<|Aa<|Aa<|Ar<|Kt<|Cs I xj):=h
def ZAq(h:p:=by
 refine List.forall_mem_cons.2 ⟨?_,?_⟩
 .exact Xdw
 refine List.forall_mem_cons.2 ⟨?_,?_⟩
 .exact Xdw
 exact uQ):=h
def bT(h:p:=by exact Bf ((s,y)) trivial (Si I) Jx):=h
def ZAs(h:p:=by exact Md 15 I<|AN<|Kt<|Al<|Av I I<|λ_ h=>⟨(),congrArg Eb (by unfold Mo.SY; rw[x,a]; rfl),T0,h.oS⟩):=h
def ZAt(h:p:=by
 by_cases h12:g.st=1\/g.st=2
 .exact .inl ⟨h12,rfl,rfl,rfl⟩
 .exact .inr ⟨λe=>absurd e h12,h12⟩):=h
def ZAu(h:p:=by exact Sj dZ [z] I I<|Pm [5,4,3,2,1] I<|Ae<|B7<|Ae<|Gd I wW xM aA (id I) ZAU):=h
def gZ(k:q)(h:q->p:=by exact λzz=>Cr I<|Lm I<|Lq I (Qi I)<|Nh I<|AE<|Au zz):=h k
def ZAw(k:q)(h:q->p:=by exact λzz=>Md 3 I<|Ht Bu I Z3 I<|Dq I xB<|Md 2 I<|Ht Bu I Z3 I<|Dq I xB<|KC I<|Ee [_] (JN h o (x.hm.SV m) b) I call122 Tt zz):=h k
def bU(h:p:=by exact AL I OO MW uP Nw):=h
def Xg(h:p:=by exact AM I KI I ur):=h
def Y8(k:q)(h:q->p:=by exact λzz=>Nh I<|AE<|Au<|Ae zz):=h k
def ZA0(h:p:=by
 simp only[Option.some.injEq] at h
 subst h
 obtain⟨v,rfl,z,rfl,s⟩:=Ts y
 rw[hu]
 simp[s,FJ]):=h
def Za(h:p:=by rw[Ms.oQ];decide):=h
def Vu(h:p:=by exact λa k=>A3):=h
def ZA3(h:p:=by exact List.replicate 248 0):=h
def Vl(h:p:=by rw[a]):=h
def ZA5(h:p:=by exact AH ((⟨ZJ4,{x.d with msgs:=GB x.d.msgs l}⟩:NV).c) I AV AK I uO (I)<|I):=h
def ZA6(h:p:=by
 obtain⟨j,hj⟩:=tj.1 h
 rw[pM] at hj
 split at hj
 .rename_i hlt;exact sT<|y j e hlt hj
 .cases hj):=h
def lS(h:p:=by first|exact sS A1|(simp;done)|(simp;omega)):=h
def gK(h:p:=by rw[f z<|u z d,f b e1];exact F):=h
def Yi(h:p:=by unfold Pg;simp):=h
def Vm(h:p:=by exact h a w k x):=h
def Ze(h:p:=by exact .inr<|.inr WM):=h
def ZBC(h:p:=by
 rintro⟨j,g,y,x,z⟩
 exact .inr ⟨j,g,λe=>ec (by subst e;rw[a] at y;cases y;exact x.symm),y,x,z⟩):=h
def Xh(h:p:=by rw[g];rfl):=h
def ZBE(h:p:=by exact Sb 17 false I (I)<|Ab I<|Cs I<|Lq I (Qe I)<|Ak I<|Sb 26 false I (I)<|Ab I<|Ah<|Au<|AW xJ):=h
def ZBF(h:p:=by
 rw[ti] at x
 subst x
 have y:=FQ z
 subst y
 exact Am I<|Cs I<|Ak I<|Al<|Ag<|row0 3 ds none vI):=h
def ZBG(h:p:=by exact ⟨lv,rfl,T0,(z.put _).sublist<|.cons _<|.cons _<|.cons_cons _<|.cons _<|.cons _<|tG _⟩):=h
def ZBH(k:q)(h:q->p:=by exact λzz=>Au<|Kt<|Cr I<|Lq I (Qi I)<|Lm I<|AE<|Xo zz):=h k
def lZ(k:q)(h:q->p:=by exact λzz=>Cs I<|Ak I<|Ad<|Cs I<|Lm I<|Lq I ji<|uG zz):=h k
def gq(h:p:=by unfold Rm.dn at hd;simp at hd):=h
def XA(h:p:=by exact λ_=>rfl):=h
def ZBL(h:p:=by exact Cq ((⟨Ef f.d f.s<|(σ 9).2.2.getD 1 sv0,BG f.d<|MJ z.d i⟩:NV).c) AV AK 0 I (I)<|I):=h
def Yl(h:p:=by exact Ex rfl Xe9 uQ rfl):=h
def XB(h:p:=by exact Hd 2 I x.kp):=h
def ZBO(h:p:=by exact List.range l.length):=h
def ZBP(k:q)(h:q->p:=by exact λzz=>VG 21 [10,11,12,13,14,15,17,18,19,20,16,0,1,2,3,4,5,6,7,8,9] I<|KC I<|Ee [_,_,_,_,_,_,_,_,_,_,_] wD I call204 Tt zz):=h k
def ZBQ(k:q)(h:q->p:=by exact λzz=>Sb 26 false I HD<|Mv 9 I<|Ak I<|Ab I<|Cs I<|Mv 2 I<|EJ Bu I Z3 I<|Lo G3 5 I<|Mv 2 I<|Sb 45 false I HD<|Mv 4 I zz):=h k
def Ym(h:p:=by rw[b];decide):=h
def Yn(h:p:=by rw[x];decide):=h
def ZBT(h:p:=by rw[x];exact E.wait t b g _<|by rw[show Mo.told (Mo.leave hO t) b=M.told b from rfl,P]):=h
def gu(h:p:=by exact λw h=>s.frame (F:=F) h<|z w h):=h
def Rx(h:p:=by exact ⟨h.at 2 rfl,h.at 1 rfl,h.at 11 rfl,h.rd 0 rfl⟩):=h
def lg(h:p:=by exact ⟨h.rd 2 rfl,h.rd 3 rfl,h.rd 4 rfl,h.rd 5 rfl⟩):=h
def YA(k:q)(h:q->p:=by exact λzz=>Af<|row0 3 ds none zz):=h k
def Zf(h:p:=by dsimp only;rw[hm]):=h
def ZBZ(h:p:=by
 by_cases e2:i<k
 .rw[pN e2,pN<|show i<k+1 by omega]
 .rw[pQ e2,pQ<|show ¬i<k+1 by omega]):=h
def lq(h:p:=by first|exact sS A1|(rw[c];simp[io])|simp):=h
def bW(h:p:=by show (0:Int)<=_;omega):=h
def lu(h:p:=by exact λ_ _=>⟨rfl,T0,[],by rw[sG];exact y.symm⟩):=h
def gy(h:p:=by exact ⟨qc _,λj h=>absurd h<|s6 _⟩):=h
def ZBe(h:p:=by exact AH (nc.c) I AV AK I wV (I)<|I):=h
def iC(h:p:=by exact AH (nv.c) I AV AK I Ih (I)<|I):=h
def iD(h:p:=by exact AH (nv.c) I AV AK I uS (I)<|I):=h
def ZBh(h:p:=by exact Aw (l:=lvl G R++List.replicate j (((G.ht 0:Int)+1-(G.ht b:Int))+1)) i I KI Z3 I ue I I):=h
def ZBi(h:p:=by exact Obj.cells #[Value.int IntKind.i64 (n:Int)] 3):=h
def bZ(h:p:=by show 0+4<=4;decide):=h
def ZBk(h:p:=by exact λ_ _=>⟨rfl,T0,[],by rw[sG];have:=x.lN.symm;unfold Q.H at this;rwa[qQ] at this⟩):=h
def ZBl(h:p:=by exact Pm [8,9,8,8,8,8,8] I<|Ae<|Ae<|Ae<|Ae<|Ae<|Ae<|Ae<|Av I I<|λ_ r=>⟨a,rfl,T0,r⟩):=h
def ZBm(h:p:=by have q:=congrArg List.length<|KP.cells e hj t;rw[sI,Kv.oQ] at q;rw[q];decide):=h
def Zg(h:p:=by exact h (v,0,[]) trivial):=h
def mD(h:p:=by exact Ab I<|AP<|Aa<|Aa<|Ar<|Kt<|Cs I<|Lm I xj):=h
def WG(k:q)(h:q->p:=by exact λzz=>Ab I<|Ah<|hJ zz):=h k
def mF(h:p:=by exact Aj I Pq I uO I):=h
def ZBr(h:p:=by exact Aw i I KI Z3 I uS I I):=h
def iE(h:p:=by exact Aw i I KI Z3 I ue I I):=h
def Vy(h:p:=by exact H2 2 1 I):=h
def Vz(h:p:=by exact Hb 0 4 I):=h
def W9(h:p:=by exact Hb 1 4 I):=h
def mG(h:p:=by first|rfl|(rw[sT A1];rfl)|exact sS A1):=h
def cZ(h:p:=by rw[show FV N m i=false from y];decide):=h
def Wj(h:p:=by exact h.at 2 I):=h
def iF(h:p:=by exact λ_ h=>AR kj Opn.enc [op] I I):=h
def ZB0(h:p:=by exact Ak I<|Al<|Av I I<|λ_ h=>⟨(),congrArg Eb (by first|rfl|exact sT A1),T0,h.oS⟩):=h
def ZB1(h:p:=by
 refine⟨h.Ti.2 x,?_⟩
 unfold FH
 rw[sT<|show t∈(L.OG<|L.fi b).rd from this,Bool.or_true]):=h
def bV(h:p:=by rw[Ms.oQ]; decide):=h
def lX(h:p:=by exact Aj I Xa I uP<|Ms.aW _):=h
def lY(h:p:=by exact Aj I Xa I uq<|Ms.aW _):=h
def ZB5(h:p:=by
 simp only[Lit.wf,qW,rA]
 exact⟨by show (-2^63:Int)<=_; omega,by show _<=(2^63-1:Int); omega⟩):=h
def Y9(h:p:=by rw[d];rfl):=h
def Zd(h:p:=by exact AU I Bj I OQ I I):=h
def Vd(h:p:=by exact Hc 5 4 14 I):=h
def ZB9(h:p:=by exact List.replicate fl V6):=h
def ZCA(k:q)(h:q->p:=by exact λzz=>Md 2 I<|Ht D6 I Jl I<|Dq I (Aj I LX I uS I)<|Md 2 I<|Ht Cz I Wi I<|Dq I (Aj I Vs I uO I)<|KC I zz):=h k
def ZCB(h:p:=by exact Pm [1] I<|Av I I<|λ_ l=>⟨y,rfl,⟨g,p,by rw[f];exact n⟩,by rw[i];exact l⟩):=h
def mM(h:p:=by
 refine⟨_,rfl,rfl,λσ R F K A h=>?_⟩
 exact H8):=h
def mO(h:p:=by
 refine⟨_,rfl,rfl,λσ R F K i h=>?_⟩
 exact H8):=h
def ZCE(h:p:=by
 simp only[Lit.wf,qW,rA]
 exact⟨by show (-2^63:Int)<=_;omega,by show _<=(2^63-1:Int);omega⟩):=h
def iM(h:p:=by show 1<=x.s.left;omega):=h
def mP(h:p:=by exact λ_ h=>CR.WT (S:=S) h<|λe Q=>sr _<|Q):=h
def mQ(h:p:=by exact λ_ h=>CR.WT (S:=S) h<|λe l=>sr _<|l):=h
def mV(h:p:=by exact λr _=>⟨⟨rfl,rfl,rfl,D,rfl⟩,rfl⟩):=h
def mW(h:p:=by exact λy c=>⟨⟨c.1,d c.2.1,c.2.2⟩,rfl⟩):=h
def ZCK(h:p:=by exact AO 0 0 I G3 I I yI (show (Q7 (x.s.al 1).1)[0]?=some (jd:Int) by rw[h4];rfl) I):=h
def WI(h:p:=by exact H2 0 5 I):=h
def WJ(h:p:=by exact H5 I I I):=h
def ZCN(h:p:=by
 rw[show k+1+i=k+(i+1) by omega] at y
 exact (tS _ _ _).trans<|y.append_left<|x.H (k:Int)):=h
def ZCO(h:p:=by
 rw[show k+1+i=k+(i+1) by omega] at y
 exact (y.append_left<|x.H (k:Int)).trans<|tS _ _ _):=h
def ZCP(h:p:=by exact AO 1 0 I G3 I I yI (show (Q7 (x.s.al 2).1)[1]?=some (kb:Int) by rw[j];rfl) I):=h
def cu(h:p:=by exact List.drop_sublist ..):=h
def ZCR(h:p:=by exact Lq I (ER I JA I I)<|Ak I<|Al<|Av I I<|λ_ h=>⟨(),congrArg Eb zc,T0,h⟩):=h
def mX(h:p:=by rw[pQ (show ¬cap=i by omega),sZ]):=h
def Zi(h:p:=by rw[y];decide):=h
def ZCU(h:p:=by exact AO 0 0 I G3 I I yI (show (Q7 (x.s.al 2).1)[0]?=some (g:Int) by rw[j];rfl) I):=h
def Zj(h:p:=by exact AU I Bu I Z3 I I):=h
def ZCW(h:p:=by exact AW<|Bl I<|λ_ e=>⟨y,rfl,⟨b,f,by rw[hm];exact i⟩,by rw[hm];exact e⟩):=h
def iO(h:p:=by exact DQ (i+1) I KI Z3 I I I A1):=h
def VJ(h:p:=by exact FI h t):=h
def ZCZ(h:p:=by
 have:=J c f
 show (if c=a then _ else if c=b then _ else _)=_
 rw[pQ this.1,pQ this.2]):=h
def mY(k:q)(h:q->p:=by exact λzz=>LW I<|Ee [_,_,_,_,_] (Nv h D j r 0 A) I call201 Tt zz):=h k
def ZCb(h:p:=by exact Bw (rs:=[.tmp 2,.tmp 3]) I I<|λ_ h=>⟨(),Uw,T0,by rw[x];exact h⟩):=h
def mZ(h:p:=by rintro (e|e);exact e h;exact e x):=h
def Zk(h:p:=by rw[hm];exact s):=h
def dA(h:p:=by show 1<5;decide):=h
def dB(h:p:=by show 2<5;decide):=h
def dF(h:p:=by show 3<5;decide):=h
def mg(h:p:=by exact λa k=>by simp[k.eval (x:=.tmp 3) rfl]):=h
def ZCi(k:q)(h:q->p:=by exact λzz=>Ab I<|Ah<|Ks<|Cs I<|Mv 2 I<|EJ Dj I F4 I<|Lq I (Aj I GO I yk I)<|Lq I (AM I Fx I y.f.kp)<|uG zz):=h k
def ZCj(h:p:=by exact Cq ((⟨ZJj,D2 nv.d m⟩:NV).c) AV AK 1 I (I)<|I):=h
def ZCk(h:p:=by exact Cq ((⟨ZJk,DT nv.d m⟩:NV).c) AV AK 1 I (I)<|I):=h
def Zl(h:p:=by rw[pI]; omega):=h
def Zm(h:p:=by simpa using x):=h
def ZCn(h:p:=by exact show ¬((L.pin t ((0:Nat):Int)).1=1\/(L.pin t ((0:Nat):Int)).1=2) by omega):=h
def iP(h:p:=by exact Aw i I O8 Qc I z.kp I I):=h
def Ve(h:p:=by exact Ob 5 I):=h
def Xi(h:p:=by exact Hc 4 3 2 I):=h
def nC(h:p:=by rw[qC,CX]; simp[binOp,Op.intArith]):=h
def nD(h:p:=by exact Aj I GO I (λ_ h=>(CR.keep z h).c) I):=h
def Wp(h:p:=by exact Hb 1 5 I):=h
def YB(h:p:=by exact Hd 0 I y.kp):=h
def iQ(k:q)(h:q->p:=by exact λzz=>Nk<|Af<|Cs I<|Lq rfl wQ (Mv 2 I<|Nk<|Am I<|Cs I<|Ak I<|Ad<|Cs I<|Lm I zz)):=h k
def ZCw(h:p:=by
 by_cases g3:j=0
 .rw[pN g3,pN g3]
 .rw[pQ g3,pQ g3,pN A1]):=h
def Yo(h:p:=by assumption):=h
def ZCy(h:p:=by first|rfl|(rw[f];rfl)|(simp only[Bool.not_eq_false',rA];omega)):=h
def ZCz(h:p:=by show 0+(En.c _).length<=(En.c _).length;rw[En.oQ,En.oQ];decide):=h
def ZC0(h:p:=by show 0+(Kv.c _).length<=(Kv.c _).length;rw[Kv.oQ,Kv.oQ];decide):=h
def iG(h:p:=by unfold Rm.cl;rw[y];rfl):=h
def ZC2(h:p:=by exact λ_ h=>NB s h (i:=0) I a (by have:=Kj g A3;simp only[pz] at this;omega)):=h
def iH(h:p:=by exact λ_ h=>p.keep h):=h
def Zh(h:p:=by exact λe'=>e e'.symm):=h
def mJ(h:p:=by exact ⟨_,pE (by have:=(qp.1 hj).1;omega)⟩):=h
def iI(h:p:=by exact Et (v:=Pj 185) I I I uX):=h
def iJ(h:p:=by rw[j] at s; cases s):=h
def iK(h:p:=by rw[y.out]; exact F3):=h
def iL(h:p:=by simp only[rE];omega):=h
def ZDA(h:p:=by exact λF _=>AE<|Au<|AW<|Bl I<|λ_ K=>⟨(F,y.2),rfl,⟨p,J,M⟩,Xh5 K⟩):=h
def ZDB(h:p:=by exact λ_ h=>⟨h.at 3 rfl,_,by first|exact y|(rw[sI];exact y),h.rd 4 rfl⟩):=h
def nH(h:p:=by exact Cq (x.c) Ck Bi 0 I (BF _) OM):=h
def ZDD(h:p:=by exact Cs I<|Lm I<|Ak I<|Al<|Av I I<|λ_ h=>⟨(),congrArg Ei x,T0,h⟩):=h
def YD(k:q)(h:q->p:=by exact λzz=>Lq I (Ql I)<|Nk zz):=h k
def ZDF(h:p:=by exact Obj.cells #[Value.slice x 0 c0] 159):=h
def ZDG(h:p:=by exact Obj.cells #[Value.slice x n c0] 159):=h
def ZDH(h:p:=by exact h.set1 (y:={L.M.at' i with pins:=(L.M.at' i).pins+1,ref:=true}) x I I I I):=h
def ZDI(h:p:=by
 cases k:r.keep
 .rfl
 .exact absurd ⟨g,k⟩ hk):=h
def ZDJ(h:p:=by have:=Cg (y.keep h A3) (lo:=0) (hi:=i) (qc _) b;rwa[pU] at this):=h
def ZDK(h:p:=by rw[x];exact l.fill b a (XfJ z) I ⟨λ_=>.inl z,λ_=>.inr rfl⟩):=h
def iU(k:q)(h:q->p:=by exact λzz=>KC I<|OC I I uW<|AN<|Kt<|Al zz):=h k
def iV(h:p:=by exact Aj I G5 I uP<|Iq b.len):=h
def iW(h:p:=by exact Aj I G5 I uq<|Iq a.len):=h
def ZDO(h:p:=by exact Am I<|Cs I<|Ak I<|Al<|Ag<|Av I I<|λ_ h=>⟨.empty,rfl,A2,h.oS⟩):=h
def ZDP(h:p:=by exact Av I I<|λ_ e=>⟨y,rfl,⟨a,f,i⟩,by dsimp only;rw[z];exact e⟩):=h
def iY(h:p:=by exact Aw i I BH Bi I z.kp I I):=h
def ZDR(h:p:=by show (if o.kind=1 then XQ o else Na 16)=Na 16;rw[pQ wz]):=h
def iZ(h:p:=by show 0+5<=5;decide):=h
def ig(h:p:=by exact λ_ h=>AR kj ds [t] I I):=h
def ZDU(h:p:=by exact Aj I G3 I uS I):=h
def ZDV(h:p:=by exact Ak I<|Al<|Av I I<|λ_ h=>⟨(),congrArg Eb (iz A1).symm,T0,h⟩):=h
def dG(k:q)(h:q->p:=by exact λzz=>Cf uD I I I I call296 I XlT zz):=h k
def dH(k:q)(h:q->p:=by exact λzz=>Cf uK I I I I call297 I xz zz):=h k
def ZDY(h:p:=by
 cases l with
 |nil=>exact⟨by simpa [Dy] using z,b⟩
 |cons x l=>simp at f):=h
def Zp(h:p:=by exact λ_ _=>Ak I hI):=h
def ZDa(h:p:=by exact λ_ h=>⟨(),rfl,T0,by have:=h.drop;rw[d,qS] at this;exact this⟩):=h
def ZDb(h:p:=by exact λ_ h=>⟨Xdv,⟨h.rd 7 rfl,h.rd 8 rfl,h.rd 9 rfl,h.rd 10 rfl⟩⟩):=h
def dK(h:p:=by exact AS (TV.c) I I uX):=h
def nJ(h:p:=by exact Aj I G3 I uP eF):=h
def ZDe(h:p:=by exact Bl I<|λ_ O=>⟨x,rfl,⟨rfl,h,Yq⟩,by rw[hm];exact O⟩):=h
def Xl(h:p:=by exact H2 6 11 I):=h
def ZDg(h:p:=by simp[Dv]; omega):=h
def nK(h:p:=by simp[zeroValue,typeInfo,hi,hz]):=h
def nM(h:p:=by unfold IL;rw[sT hk8,x];simp):=h
def dL(h:p:=by exact λ_ h=>u.keep h e):=h
def ZDk(h:p:=by exact ⟨by show 1<=(1+(k:Int)%4);omega,by show (1+(k:Int)%4)<=4;omega,a⟩):=h
def ZDl(h:p:=by exact AO 0 0 I G3 I I (λ_ h=>h.2.2.2) (show (Q7 (x.s.al 1).1)[0]?=some (jd:Int) by rw[h4];rfl) I):=h
def ZDm(h:p:=by exact Am I<|Cs I<|Ak I<|Al<|Ag<|Av I I<|λ_ h=>⟨S,Vl,⟨by rw[a];exact g,λ_ h=>h⟩,h⟩):=h
def WL(h:p:=by rw[g]):=h
def Uw(h:p:=by rw[x]):=h
def ZDp(h:p:=by
 have d:r.pinned (x.hm.pin t r.lo).1=({r with a:=4,pin:=true}:Rm):=Xh
 exact mx):=h
def ZDq(h:p:=by exact ER I PL I I):=h
def Zt(h:p:=by exact Aw i I Ur Im I RF I I):=h
def ZDs(h:p:=by exact λ_ h=>h.2.2.1):=h
def ZDt(h:p:=by exact AO i 0 I G3 I I uS N I):=h
def iq(h:p:=by exact AO i 0 I G3 I I ue p I):=h
def ZDv(h:p:=by exact Al<|Av I I<|λ_ h=>⟨(),congrArg Eb (by rw[te];omega),T0,h⟩):=h
def iw(h:p:=by exact Aw 0 I KI Z3 I yI I I):=h
def Zu(h:p:=by exact Aw i I Ur Im I ue I I):=h
def XD(h:p:=by exact CA hcl d):=h
def iy(h:p:=by exact DQ i I KI Z3 I I I A1):=h
def iR(h:p:=by exact Dz I Ji I isAgg358 I I):=h
def Xj(h:p:=by exact Hb 0 1 I):=h
def XC(h:p:=by exact Hb 2 5 I):=h
def YC(h:p:=by exact Hc 6 7 1 I):=h
def iT(h:p:=by exact List.mem_of_mem_drop h):=h
def ZD5(h:p:=by
 rcases qg i with h|h
 .subst h;rw[T4 H u] at d;cases d
 .exact h):=h
def nG(h:p:=by
 unfold Wx.dm
 by_cases x:b=0<;>simp[x]):=h
def Xk(h:p:=by exact λ_ _=>h):=h
def ZD8(h:p:=by exact λa=>by simp[execOp,c]):=h
def ZD9(h:p:=by exact λa=>by simp[execOp,d]):=h
def dM(h:p:=by exact Aj I G3 I uq<|Wr.mid _ (j:=0) I):=h
def ZEB(h:p:=by exact Bw (rs:=[.tmp 4,.tmp 5]) I I<|λ_ h=>⟨(),by rw[x,z],T0,h.oS⟩):=h
def dN(h:p:=by rw[qY];omega):=h
def dO(h:p:=by rw[s9];omega):=h
def jA(h:p:=by simp[k.len]; omega):=h
def dP(h:p:=by simpa using c):=h
def dQ(h:p:=by simpa using y):=h
def nR(h:p:=by exact ⟨(v%1099511627776).toNat,A1,A1⟩):=h
def ZEI(h:p:=by exact Cq ((⟨m.key,r.1⟩:En).c) Yc Qc 0 I (En.whole _) YQ):=h
def ZEJ(h:p:=by
 intro v h
 rcases pj.1 h with rfl|h
 .rfl
 .obtain⟨z,_,rfl⟩:=qj.1 h; rfl):=h
def ZEK(h:p:=by
 unfold L1
 rcases (by omega:n=1\/n=2\/n=3\/n=4) with rfl|rfl|rfl|rfl<;>omega):=h
def XE(h:p:=by rw[y]):=h
def jB(h:p:=by unfold Fl.over;simp):=h
def Zy(h:p:=by exact AM I KI I ue):=h
def ZEO(k:q)(h:q->p:=by exact λzz=>Ab I<|Ah<|Kt<|Cr I<|Mv 2 I<|Lq I iE<|Lq I (AO i 0 I G3 I I ue F I)<|Nh I<|AE zz):=h k
def XF(h:p:=by exact Ak I hI):=h
def ZEQ(h:p:=by exact Bw (rs:=[.tmp 2,.tmp 3]) I I<|λ_ h=>⟨(bs,_,_),rfl,T0,h⟩):=h
def dR(h:p:=by rw[hm];exact k):=h
def ZES(h:p:=by show (if b=a then _ else _)=_;rw[pQ<|rQ E];exact pN rfl):=h
def nS(h:p:=by simp at h;subst h;exact sU _):=h
def nT(h:p:=by exact λw h=>s.frame (F:=F) h<|a w h):=h
def ZEV(h:p:=by exact AJ ((i+1,v)) xu xu (Si I)<|λ_ h=>by dsimp only; rw[x]; exact h):=h
def ZEW(h:p:=by
 show (if m.wr=u then -1 else m.wr)=t
 rw[pQ<|by rw[h];exact x];exact h):=h
def ZEX(h:p:=by exact Cs I<|LW I<|AT I I I I<|λa=>Ak I<|Cs I<|EJ Wy I Z3 I xv):=h
def ZEY(k:q)(h:q->p:=by exact λzz=>Dm I<|Dq I (AM I O8 I Ih)<|Dq I (Qi I)<|Md 2 I<|Dq I (EG i I O8 Qc I Ih I I A1) zz):=h k
def jC(h:p:=by rw[m]; exact rW ..):=h
def jD(h:p:=by simp[Enc.flat_nil]):=h
def dS(h:p:=by simp[Kv.oQ]):=h
def nU(h:p:=by simp[sizeOf,typeInfo,hi,hs]):=h
def ZEd(h:p:=by exact λ_ h=>⟨e.m.keep h A3,AR wG dZ [CN nv.d] I rfl⟩):=h
def ZEe(h:p:=by exact AJ ((i+1,o)) A4 A4 (Si I)<|λ_ h=>by dsimp only;rw[x];exact h):=h
def ZEf(h:p:=by exact Av I I<|λ_ h=>⟨(v,z,a),rfl,T0,by rw[d,j,sG];exact h⟩):=h
def jE(h:p:=by exact Bg<|Cn<|Bg<|Xej BO):=h
def ZEh(h:p:=by have:=x.lN;unfold Q.H at this;rwa[qQ] at this):=h
def jF(h:p:=by rw[Kv.oQ,Kv.oQ]):=h
def dU(h:p:=by exact Aj I TW I uO I):=h
def nV(h:p:=by exact Aj I TW I uS I):=h
def Xm(h:p:=by exact H2 0 2 I):=h
def Xn(h:p:=by exact H2 1 6 I):=h
def YK(h:p:=by exact Xek I U9 I):=h
def YL(h:p:=by exact Sep.oR XdO):=h
def nX(h:p:=by rw[A];exact h5 done M g):=h
def nY(h:p:=by rw[Kv.oQ,Ms.oQ]; decide):=h
def nZ(h:p:=by rw[z];exact Lh _ _ _ _ _ _):=h
def ZEs(h:p:=by show (if o.kind=3 then o.by' else 0)=0;rw[pQ wz]):=h
def ny(h:p:=by simp[Value.cells,En.oQ]):=h
def oC(h:p:=by exact λ_ h=>⟨(),rfl,T0,h.drop⟩):=h
def ZEv(h:p:=by exact ⟨qc _,λh=>absurd h<|Nat.lt_irrefl _,λ_=>⟨rfl,rfl⟩⟩):=h
def ZEw(h:p:=by exact ⟨⟨_,rfl⟩,.inr ⟨_,⟨k+1,A1,(Pa _ _).symm⟩,f⟩⟩):=h
def WM(h:p:=by exact .inl I):=h
def jG(h:p:=by exact BA<|z.holds _<|a _ x):=h
def ZEz(h:p:=by exact Bl I<|λ_ h=>⟨S.vL,rfl,T0,by rw[x,<-z.ln]; exact h⟩):=h
def ZE0(h:p:=by exact S.H bc):=h
def ZE1(h:p:=by
 rw[pM] at hj
 split at hj
 .rename_i hlt;exact Ma hlt hj
 .cases hj):=h
def ZE2(h:p:=by have h:=h2.perm sV;exact⟨h.at 1 rfl,h.rd 0 rfl⟩):=h
def YE(h:p:=by rw[c]):=h
def Zv(h:p:=by exact h.l l<|ry y):=h
def Zw(h:p:=by exact hm m<|rW ..):=h
def nN(h:p:=by exact ⟨rfl,(qT _ _).alloc (qb _) _⟩):=h
def nO(h:p:=by exact Aj I Xa I xd<|Ms.aW _):=h
def nP(h:p:=by exact Cq (TV.c) AV AK 0 I (I)<|I):=h
def Zx(h:p:=by exact Fw I KI I):=h
def Yp(h:p:=by exact SN 5 I):=h
def ZFB(h:p:=by exact List.replicate 16 0):=h
def ZFC(h:p:=by rw[BI];exact x):=h
def oI(h:p:=by rw[Kv.oQ,En.oQ];decide):=h
def oJ(h:p:=by rw[Kv.oQ,Ms.oQ];decide):=h
def jL(h:p:=by rw[h];exact hb):=h
def ZFG(h:p:=by show z2.hm.s=_;rw[J];show z1.hm.s=_;rw[L];exact h9):=h
def jM(h:p:=by exact λ_ a _ _ _=>Xep I a):=h
def ZFI(h:p:=by exact λ_ h=>⟨⟨_,h.at 5 rfl,Ie.fA _⟩,h.at 0 rfl⟩):=h
def jO(h:p:=by exact λv _=>Ak I<|Al uc):=h
def ZFK(h:p:=by exact ⟨rfl,rfl,z.1,C z.2.1,z.2.2⟩):=h
def ZFL(h:p:=by exact Sb 40 false I eh<|EJ BR I Qb I<|Lq I lX<|Mv 2 I XdS):=h
def dV(h:p:=by exact Aj I G4 I Ih I):=h
def dW(k:q)(h:q->p:=by exact λzz=>Lq I (Qe I)<|Ak I zz):=h k
def ZFO(h:p:=by by_cases h9:cc=i+1<;>simp[Oy,BT,h9,AI,RU]):=h
def oK(h:p:=by rw[Ie.XcL x rfl,e];rfl):=h
def ZFQ(h:p:=by rw[show (D2 (N 0) m).leaf=false from f];simp):=h
def oL(h:p:=by exact ⟨y,x,a,by rw[e];exact h.s⟩):=h
def aC(h:p:=by exact AL I AV AK RY<|I):=h
def jP(h:p:=by exact AU I Pz I SS I I):=h
def jQ(h:p:=by exact Bv 0 I TE Z3 I I I):=h
def ZFV(h:p:=by exact List.replicate 4 0):=h
def ZFW(h:p:=by exact List.replicate 8 0):=h
def ZFX(h:p:=by
 cases i with
 |zero=>exact h
 |succ i=>simp at hi;subst hi;exact x):=h
def ZFY(h:p:=by
 rcases e with⟨rfl,_⟩|e
 .omega
 .exact e):=h
def ZFZ(h:p:=by
 rcases h with h|h
 .exact .inl h
 .exact .inr<|qh _ h):=h
def ZFa(h:p:=by first|(rw[g];rfl)|(rw[a];rfl)|(rw[hm0];rfl)):=h
def ZFb(h:p:=by rw[hl];rintro⟨_,h|h⟩;cases h;exact h4 h):=h
def jR(h:p:=by exact λ_ h=>CR.keep x h):=h
def ZFd(h:p:=by exact ⟨by show (0:Int)<=1;decide,by show (1:Int)<=_;omega⟩):=h
def YM(k:q)(h:q->p:=by exact λzz=>Ab I<|Ah<|Po zz):=h k
def jS(k:q)(h:q->p:=by exact λzz=>Am I<|Cs I<|Ak I<|Al<|Ag zz):=h k
def oM(h:p:=by exact Cq (x.c) AV AK 4 I (I)<|I):=h
def oN(h:p:=by exact IN (v) 1099511627776 A2 A2):=h
def ZFi(h:p:=by
 rcases h with h|h
 .exact h
 .exact absurd (tR (f:=Prod.fst) h) x):=h
def ZFj(h:p:=by
 show ¬((p.size+q.size:Nat):Int)>9223372036854775807
 omega):=h
def oO(h:p:=by
 simp only[qQ] at this ⊢
 exact this):=h
def oP(h:p:=by rw[pK,pK,Enc.oU,s9];rfl):=h
def og(h:p:=by simp[getObj,Sem.run,hm]):=h
def jT(h:p:=by exact ⟨k.n.toNat,A1,A1⟩):=h
def oq(h:p:=by exact ⟨⟨x,λe=>zZ⟩,j.ok,T0⟩):=h
def ZFp(h:p:=by exact BK (x.key.c) i 0 I OO MW I I z.kp d A2 aP):=h
def ZFq(h:p:=by exact Bf (((G.ht 0:Int)+1-(G.ht b:Int))) (.inr A1) (Si I) Jx):=h
def ou(k:q)(h:q->p:=by exact λzz=>Cf (Gz nv u i g t) I I I I call267 I iH zz):=h k
def ZFs(h:p:=by exact Cq ((⟨l,x.hm.no r.lo⟩:NV).c) AV AK 5 I (I)<|I):=h
def dX(k:q)(h:q->p:=by exact λzz=>Cs I<|Ak I<|Ad<|zF zz):=h k
def YN(h:p:=by exact H2 5 6 I):=h
def Tf(h:p:=by exact Hb 1 0 I):=h
def ZFw(h:p:=by exact Nk<|Al<|CE I (AL I isAgg363 sizeOf363 uP<|I) uZ):=h
def ZFx(h:p:=by exact Nv hk X o ({r with pin:=false}:Rm) 0<|λ_=>w3.has):=h
def ZFy(h:p:=by exact Sep.oR<|by show (En.c _).length=_;rw[En.oQ,En.oQ]):=h
def ZFz(h:p:=by exact Sep.oR<|by show (Kv.c _).length=_;rw[Kv.oQ,Kv.oQ]):=h
def ZF0(h:p:=by
 cases keep
 .rfl
 .exact absurd ⟨hu0,rfl⟩ hk):=h
def ZF1(h:p:=by first|(simp;done)|(simp only[rA];exact z)):=h
def jH(h:p:=by rw[hl];decide):=h
def jI(h:p:=by rw[qY,pI];omega):=h
def jJ(h:p:=by simpa using q):=h
def jK(h:p:=by unfold Y0;simp):=h
def oD(h:p:=by exact AJ ((i+1,p)) A4 A4 (Si I) Jx):=h
def aA(h:p:=by exact AL I AV AK xd<|I):=h
def oG(h:p:=by exact Aw i I O8 Qc I a.kp I I):=h
def oH(h:p:=by exact Bc i I OO MW I I a.kp b):=h
def uh(h:p:=by exact Cn<|Bg<|Bg<|Cn<|Bg BO):=h
def aF(h:p:=by exact SN 4 I):=h
def um(h:p:=by exact List.pairwise_singleton _ _):=h
def ZGD(h:p:=by
 have e:=y rfl
 have x:t∈m.rd:=h
 rw[e] at x;cases x):=h
def dY(h:p:=by rw[a];rfl):=h
def uw(h:p:=by rw[h] at m; cases m):=h
def uz(h:p:=by rw[k.lh.hm];exact h):=h
def jV(h:p:=by rw[n];decide):=h
def vC(h:p:=by rw[x.out]; exact F3):=h
def jW(h:p:=by rw[z]; omega):=h
def vG(h:p:=by simp only[pK];omega):=h
def jX(h:p:=by simpa using hi):=h
def ZGM(h:p:=by exact AH ((Rk nv).c) I OO MW I Va (Bq _) Nw):=h
def jY(k:q)(h:q->p:=by exact λzz=>Pw (St _ _<|HQ.H<|x.OY q) zz):=h k
def ZGO(h:p:=by rw[rj,c];exact Array.mem_toList_iff.2 k):=h
def jZ(h:p:=by simpa using b):=h
def jc(h:p:=by simpa using z):=h
def ZGR(k:q)(h:q->p:=by exact λzz=>LW I<|AB I I Z3 I I I (by rw[Ft x];decide)<|Bb (mq)<|Ns<|Cs I<|Ak I zz):=h k
def ZGS(h:p:=by exact AH (c.key.c) I OO MW I uO aP Nw):=h
def vN(h:p:=by exact AO i 0 I G3 I I z.kp b I):=h
def vP(h:p:=by exact Aw i I CZ MW I a.kp I I):=h
def vg(h:p:=by exact Aw i I KI Z3 I c.kp I I):=h
def vk(h:p:=by exact Aw i I KI Z3 I z.kp I I):=h
def ZGX(h:p:=by
 refine Mv 5 I<|Ak I<|Al<|Ag<|AA<|Ag ?_
 exact A9):=h
def Yr(h:p:=by rw[d]):=h
def ZGZ(h:p:=by rw[v z (u z d)<|S z b n (rQ T) w];exact w):=h
def wJ(h:p:=by show 0+2<=2;decide):=h
def jf(h:p:=by simp[Oy,BT]):=h
def wK(h:p:=by exact show 0<l.length by omega):=h
def wM(h:p:=by exact λ_ _=>AE<|AW<|Bl I xm):=h
def wP(h:p:=by exact λ_ h=>AR Wj ds [x] I I):=h
def ZGf(h:p:=by exact λ_ h=>⟨y.keep h A3,x.keep h A3,h.at 6 rfl⟩):=h
def Xo(k:q)(h:q->p:=by exact λzz=>AD<|Ae<|AD<|Ae zz):=h k
def ZGh(h:p:=by exact AS (Ans.c (⟨d.e,false,Na 16⟩:Ans)) I I uX):=h
def ZGi(k:q)(h:q->p:=by exact λzz=>Ak I<|Ad<|Cs I<|Mv 2 I<|Nk<|Ab I<|Ah<|Kt<|Cs I<|EJ Bj I OQ I zz):=h k
def wQ(h:p:=by exact Cj rfl JD uQ rfl):=h
def ZGk(k:q)(h:q->p:=by exact λzz=>Cs I<|Mv 2 I<|EJ Cz I Tc I<|Lo VE 0 I<|Lq I (AM I Ur I ue)<|uG zz):=h k
def aH(h:p:=by exact Hc 2 1 0 I):=h
def ZGm(h:p:=by exact M.fr.map ZIh):=h
def ZGn(h:p:=by simp[Oy,show ¬cap=4 by omega,BT,AI]):=h
def ZGo(h:p:=by exact λ_ h=>AR kj En.enc [(⟨m.key,r.1⟩:En)] I I):=h
def ZGp(h:p:=by exact λ_ h=>⟨y.m.keep h A3,a _<|y.m.keep h A3⟩):=h
def wR(h:p:=by exact Aj I V5 I (Ob 10 I) I):=h
def wS(h:p:=by exact C.wpOp hi s ⟨λ_=>s,H⟩):=h
def wX(h:p:=by exact C9 j1 I ZT Z5 I I j A1):=h
def wZ(h:p:=by exact C9 m I ZT Z5 I I hm A1):=h
def ZGu(h:p:=by exact Cq ((ZG s y).c) OO MW 0 I (Bq _) Nw):=h
def ZGv(h:p:=by exact Cq ((m.oT sq a).c) Ck Bi 0 I (BF _) OM):=h
def ZGw(h:p:=by exact Cq ((m.oT sq y).c) Ck Bi 0 I (BF _) OM):=h
def ZGx(h:p:=by exact Cq ((⟨t,b,false⟩:Wn).c) PI FT 0 I (I)<|I):=h
def ZGy(h:p:=by simp only[Sep.dom,List.filterMap_cons,z]):=h
def ZGz(h:p:=by exact Av I I<|λ_ h=>⟨(),congrArg Ei (by rw[x]; rfl),T0,h⟩):=h
def ZG0(h:p:=by rw[y] at hj; simp only[rU] at hj; subst hj; exact h):=h
def ZG1(h:p:=by exact Lm I<|LW I<|E1 (Xes) I call17 Tt<|λ_ _=>Lq I (Qy I) XF):=h
def ZG2(h:p:=by exact λ_ _=>Ai Xj<|Md 12 I<|KC I<|OC I I (Qz I) lU):=h
def Yq(h:p:=by rw[hm]):=h
def oz(h:p:=by unfold Ie.down;simp):=h
def ZG5(k:q)(h:q->p:=by exact λzz=>KC I<|OC I I zQ<|KC I<|OC I I (AU I Cz I ZV I I)<|WA zz):=h k
def uF(h:p:=by exact show (_:Int)=_ by omega):=h
def uN(h:p:=by exact λ_ h=>Ec.fB c h ye):=h
def jU(h:p:=by exact λ_ h=>⟨_,rfl,T0,h⟩):=h
def ZG9(h:p:=by exact λ_ h=>⟨h.at 0 rfl,h.at 1 rfl,Xcv b h y z⟩):=h
def ZHA(h:p:=by exact AS (Ans.c (⟨2,false,Na 16⟩:Ans)) I I uX):=h
def xK(k:q)(h:q->p:=by exact λzz=>Ak I<|Al<|AA<|Ag<|C1 I xH (id I) zz):=h k
def ZHC(h:p:=by exact C1 I xH (id I)<|λ_ h=>⟨(),Vl,T0,h.oS⟩):=h
def ZHD(h:p:=by exact Nv h9 ht J r 0<|λ_=>by rw[qu];exact k8.has):=h
def ZHE(h:p:=by
 intro ⟨X,s⟩ _
 exact h (.bool false,0,[X,s]) trivial):=h
def ZHF(h:p:=by
 rw[rE] at this
 exact ((this.alloc _).alloc _).alloc _):=h
def ZHG(h:p:=by unfold Op.equalIn; cases p<;>simp[Be h]):=h
def ZHH(h:p:=by exact λ_ h=>⟨f.keep h,AR kj Ms.enc [m] I rfl⟩):=h
def ZHI(h:p:=by exact λ_ h=>⟨g.keep h,AR kj Ms.enc [m] I rfl⟩):=h
def ZHJ(h:p:=by exact AJ (i+1) A1 A1 (Si I)<|λ_ h=>by rw[e];exact h):=h
def ji(h:p:=by exact AM I KI I c.kp):=h
def jk(h:p:=by exact AM I KI I g.kp):=h
def ZHM(h:p:=by exact AM I KI I z.kp):=h
def ZHN(h:p:=by exact AS [Pj 296,Pj 265,Pj 297,Pj 267] I I uX):=h
def ZHO(h:p:=by exact Ae<|Ae<|Ae<|Ae<|Ae<|Ae<|Ae<|Ae<|Ae wi):=h
def ZHP(h:p:=by exact Ae<|CE I wW<|λ_ h=>⟨s,rfl,T0,h.drop⟩):=h
def Yu(h:p:=by exact Av I I uZ):=h
def xO(h:p:=by exact Aw i I KI Z3 I ur I I):=h
def xQ(h:p:=by exact BA<|a.holds _<|rW ..):=h
def Yv(h:p:=by exact H2 1 0 I):=h
def Yw(h:p:=by exact H2 5 0 I):=h
def Yz(h:p:=by exact Hp I I I):=h
def ZHW(h:p:=by exact M.wt.getD x 0+1):=h
def ZHX(k:q)(h:q->p:=by exact λzz=>Nk<|Af<|Cs I<|Lq I (Qe I)<|Ak I<|Sb 21 false I uU<|Ab I<|Cs I zz):=h k
def ZHY(h:p:=by have:=l.ld b;rw[hm] at this;exact this):=h
def xR(h:p:=by rw[Kv.oQ];decide):=h
def xU(h:p:=by rw[hi];exact I1 _ _):=h
def xY(h:p:=by rw[k.tn];exact k.n8):=h
def ZHc(h:p:=by rw[l];exact KP.part n x.WU G):=h
def jl(h:p:=by rw[pN rfl]):=h
def ZHe(h:p:=by show ¬((3:Int)=1\/(3:Int)=2);decide):=h
def ZHf(h:p:=by unfold Ch;dsimp only;rw[pN he];rfl):=h
def Z7(h:p:=by exact h.at 3 I):=h
def ZHh(h:p:=by exact show ¬(L.pin t ((0:Nat):Int)).1=4 by omega):=h
def jm(h:p:=by exact λ_ h=>y.keep h):=h
def ZHj(h:p:=by exact λa=>by simp[execOp,g]):=h
def ZHk(h:p:=by exact M5 (x.q.M.at' i).nd.msgs r.k o<|qM l.m A2):=h
def ZHl(h:p:=by
 unfold Array.eraseIdxIfInBounds
 rw[dif_pos hi]; simp):=h
def ZHm(h:p:=by first|rfl|exact sT h1|exact sS h1):=h
def ZHn(h:p:=by first|rfl|exact sT h1|exact sT h2):=h
def ZHo(h:p:=by have:=a.ld b;rw[z] at this;exact this):=h
def ZHp(h:p:=by rw[qC,CX]; simp[binOp,Op.intCmp]; rfl):=h
def ZHq(h:p:=by show ByteArray.size .empty<=16;decide):=h
def ZHr(h:p:=by simp at y;rcases y with rfl|rfl<;>rfl):=h
def Xp(h:p:=by exact .inl y):=h
def ZHt(h:p:=by exact E3 I underlying24 I I):=h
def xZ(h:p:=by exact ER I Wz I I):=h
def xq(h:p:=by exact List.mem_of_mem_drop x):=h
def ZHw(h:p:=by
 simp only[rE] at this
 exact (this.alloc _).alloc _):=h
def jq(h:p:=by cases h; rfl):=h
def xw(h:p:=by rw[pI,k.len];omega):=h
def jr(h:p:=by rw[ud z];rfl):=h
def xA(h:p:=by rw[x] at e;cases e):=h
def jg(h:p:=by rw[y]; rfl):=h
def ZH2(h:p:=by show (Lit.int .u64 0).wf=true;decide):=h
def ZH3(h:p:=by show x.d.kids.length<=1000;omega):=h
def xE(h:p:=by unfold Nb;simp[y]):=h
def xI(h:p:=by exact λ_ h=>(h.rd 0 I).cap):=h
def ZH6(h:p:=by exact λ_ h=>AR kj D5 [(decide (f.pins=0))] I I):=h
def aI(h:p:=by exact λ_ h=>Xdv):=h
def ZH8(h:p:=by exact λ_ h=>⟨L.keep h,a _<|y.m.keep h A3⟩):=h
def ZH9(h:p:=by exact AH (c.c) I OO MW I uO (Bq _) Nw):=h
def ZIA(h:p:=by exact AH (k.c) I OO MW I uO (Bq _) Nw):=h
def ZIB(h:p:=by exact AH (k.c) I OO MW I wV (Bq _) Nw):=h
def jv(h:p:=by exact Aj I Fy I Ih I):=h
def jy(h:p:=by exact Aj I Fy I uO I):=h
def kC(h:p:=by exact Aj I PJ I yk I):=h
def ZIF(h:p:=by exact List.replicate 4 0++List.replicate 248 0):=h
def ZIG(h:p:=by rw[List.length_eraseIdx];simp;omega):=h
def ZIH(h:p:=by exact λ_ h=>⟨x.k.keep h A3,x.p.keep h A3⟩):=h
def ZII(h:p:=by exact λ_ h=>⟨y.m.keep h A3,y.p.keep h A3⟩):=h
def ZIJ(k:q)(h:q->p:=by exact λzz=>Ak I<|Cs I<|EJ Bj I DS I<|Lo Fy 3 I<|EJ Bj I Eo I<|Lo H6 3 I<|Lm I<|LW I<|E1 (Ge x.d.msgs x.d.piv i hi J A1 A1) I call59 ZII zz):=h k
def ZIK(h:p:=by exact λf=>(Ac (σ 13).2.1 135 (⟨ZI8,(⟨false,[],[(g:Int),(kb:Int)],[ZJl],[]⟩:Nd)⟩:NV).c).at f/\(Ac (σ 14).2.1 135 (⟨ZIo,hlA nv.d⟩:NV).c).at f/\(Ac (σ 15).2.1 135 (⟨ZIp,hlB nv.d⟩:NV).c).at f/\(O5 J t r).at f/\Ec f vl ds (Q7 (x.s.al 2).1)):=h
def ZIL(h:p:=by exact λj=>(Ac (σ 19).2.1 135 (⟨ZIi,ZIf⟩:NV).c).at j/\(Ac (σ 20).2.1 135 (OL ((σ 13).2.2.getD 3 sv0)<|(BC f.d g.d i).take<|spl yA).c).at j/\(Ac (σ 21).2.1 135 (OL ((σ 13).2.2.getD 4 sv0)<|(BC f.d g.d i).drop<|spl yA).c).at j/\(O5 o t r).at j/\Ec j vl ds (Q7 (x.s.al 1).1)):=h
def ZIM(h:p:=by exact λj=>(Ac (σ 19).2.1 135 (⟨ZI2,ZIq⟩:NV).c).at j/\(Ac (σ 20).2.1 135 (⟨ZIj,hlA g.d⟩:NV).c).at j/\(Ac (σ 21).2.1 135 (⟨ZIk,hlB g.d⟩:NV).c).at j/\(O5 o t r).at j/\Ec j vl ds (Q7 (x.s.al 1).1)):=h
def Nc(h:p:=by exact NV.one _):=h
def ZIO(h:p:=by exact λf=>(Ac (σ 13).2.1 135 (⟨ZI9,(⟨false,[],[(g:Int),(kb:Int)],[Rk nv],[]⟩:Nd)⟩:NV).c).at f/\(Ac (σ 14).2.1 135 (OL ((σ 7).2.2.getD 0 sv0)<|Ri nv).c).at f/\(Ac (σ 15).2.1 135 (OL ((σ 7).2.2.getD 1 sv0)<|Rh nv).c).at f/\(O5 J t r).at f/\Ec f vl ds (Q7 (x.s.al 2).1)):=h
def Nw(h:p:=by exact Kv.oQ _):=h
def ZIQ(h:p:=by exact ⟨w.heap.size,0,none⟩):=h
def OM(h:p:=by exact Ms.oQ _):=h
def ZIS(h:p:=by exact Sc.Og m.T p):=h
def PU(h:p:=by exact Kv.one _):=h
def VK(k:q)(h:q->p:=by exact λzz=>Pre.world (St _ _<|_::HQ.H (y)) Ih zz):=h k
def ZIV(h:p:=by exact λ(i:Nat)=>St w [] []):=h
def ZIW(h:p:=by exact ⟨b,pre.length,none⟩):=h
def ZIX(h:p:=by exact BZ y.d.es<|MJ x.d i):=h
def ZIY(h:p:=by exact λ(i:Nat)=>l.length-i):=h
def ZIZ(h:p:=by exact El l (.loop rec)::El f (.deferred<|some [])::Ac g 22 [y]::AG y 3 ds (nI<|Qm N k<|j+1)::Ac M 135 (⟨s,N<|Om N k j⟩:NV).c::Ac b 47 [BM x.bh]::Ac bk 77 k.c::(Bo (⟨s,N<|Om N k j⟩:NV)++(AG i 3 ds (nI<|Qm N k j)::x.H))):=h
def dZ(h:p:=by exact Kv.enc 8):=h
def yL(h:p:=by exact λw x=>(s.frame (F:=pre) (x.perm sV)<|z w x).mono ZKc):=h
def Xq(h:p:=by exact Ie.set_mid (j:=0) I A2 I):=h
def ZId(h:p:=by exact λz=>le z 4):=h
def RZ(h:p:=by exact Ms.one _):=h
def ZIf(h:p:=by exact BL (Bz f.d i) i (((BC f.d g.d i).getD (spl yA) en0).key) jd):=h
def ZIg(h:p:=by exact λa=>Instr.sliceAt t (a.eval x) none (some<|a.eval hi) none):=h
def ZIh(h:p:=by exact λf=>if isC t f=true then Cy else f):=h
def ZIi(h:p:=by exact ⟨f.s.e,((σ 13).2.2.getD 0 sv0),((σ 13).2.2.getD 1 sv0),((σ 13).2.2.getD 2 sv0)⟩):=h
def ZIj(h:p:=by exact ⟨sv0,((σ 13).2.2.getD 2 sv0),((σ 13).2.2.getD 3 sv0),((σ 13).2.2.getD 4 sv0)⟩):=h
def ZIk(h:p:=by exact ⟨sv0,((σ 13).2.2.getD 5 sv0),((σ 13).2.2.getD 6 sv0),((σ 13).2.2.getD 7 sv0)⟩):=h
def ZIl(h:p:=by exact Qa h.cc.length h.fl++h.x.H):=h
def ZIm(h:p:=by exact λt=>Ec t B EY ([q0,q1,q2,q3].take n)/\Ec t va ds l):=h
def YO(h:p:=by exact Wr.set_mid (j:=0) I I I):=h
def ZIo(h:p:=by exact ⟨sv0,((σ 7).2.2.getD 2 sv0),((σ 7).2.2.getD 3 sv0),((σ 7).2.2.getD 4 sv0)⟩):=h
def ZIp(h:p:=by exact ⟨sv0,((σ 7).2.2.getD 5 sv0),((σ 7).2.2.getD 6 sv0),((σ 7).2.2.getD 7 sv0)⟩):=h
def ZIq(h:p:=by exact BL f.d i (CN g.d) jd):=h
def ZIr(h:p:=by exact ⟨ops,y,.idle⟩):=h
def ZIs(h:p:=by exact Ie.SX r (x.q.M.at' i).nd.msgs):=h
def ZIt(h:p:=by exact λ(i:Nat)=>i<=l.length):=h
def ZIu(h:p:=by exact ⟨l.b,v.2.1,v.2.2,(Lt.TT l.m t).2⟩):=h
def ZIv(h:p:=by exact λz=>Ending.returned<|Value.agg (Ms.c z).toArray):=h
def ZIw(h:p:=by exact Value.tuple #[.agg (Kv.c z.1).toArray,.bool z.2]):=h
def ZIx(h:p:=by exact ⟨L.M.fr.set k ⟨2,b,0,0,true,true,nd⟩,L.M.loads,L.M.line,L.M.hand⟩):=h
def ZIy(h:p:=by exact λ(u:Unit)=>True):=h
def ZIz(h:p:=by exact λn=>(Q9 b (⟨t,m,3,true,av,0⟩:Wr)).at n):=h
def ZI0(h:p:=by exact λz=>(Ac H 135 (⟨ZJ4,{x.d with msgs:=GB x.d.msgs l}⟩:NV).c).at z/\(Ac N 135 nc.c).at z/\Ec z D Ms.enc l):=h
def ZI1(h:p:=by exact λ(lo:Nat) (hi:Nat)=>lo<=hi/\hi<=l.length/\(∀j e,j<lo->l[j]?=some e->Bs e.key k<0)/\∀j e,hi<=j->l[j]?=some e->¬Bs e.key k<0):=h
def ZI2(h:p:=by exact ⟨f.s.e,((σ 13).2.2.getD 0 sv0),((σ 13).2.2.getD 1 sv0),f.s.m⟩):=h
def ZI3(h:p:=by exact λz=>Ending.returned<|Value.tuple #[Value.bool z,.bool _,aa _]):=h
def ZI4(h:p:=by exact NU.V · σ):=h
def ZI5(h:p:=by exact Tn fn a.tmps ps y z w.heap.size):=h
def yA(h:p:=by exact BC f.d g.d i):=h
def yC(h:p:=by exact BG f.d<|MJ z.d i):=h
def ZI8(h:p:=by exact ⟨sv0,((σ 7).2.2.getD 0 sv0),((σ 7).2.2.getD 1 sv0),sv0⟩):=h
def ZI9(h:p:=by exact ⟨sv0,((σ 7).2.2.getD 2 sv0),((σ 7).2.2.getD 3 sv0),sv0⟩):=h
def Ux(k:q)(h:q->p:=by exact λzz=>Pre.fact uv zz):=h k
def ZJB(h:p:=by exact λ(u:Unit)=>St w [] [Ac x 135 TV.c]):=h
def ZJC(h:p:=by exact λz=>Ending.returned z):=h
def ZJD(h:p:=by exact Value.int .i64):=h
def ZJE(h:p:=by exact NU.H · σ):=h
def ZJF(h:p:=by exact AG h.vE 71 O1.enc m.ev::Ac h.bt 171 ZJ7::(Y3 h.cc.length (i-m.cs.length) h.fl++RD 0 h.cc)):=h
def ZJG(h:p:=by exact Bo nv++z.H m):=h
def ZJH(h:p:=by exact Rq (x.lt.eraseIdx i)++x.q.H x.bc):=h
def dh(h:p:=by exact Ie.set_mid (j:=3) I A2 I):=h
def ZJJ(h:p:=by exact World.drew<|W.alloc<|.cells (bytesRow s c) 5 fr):=h
def ZJK(h:p:=by exact λa=>(Ot b r).at a/\(Ac x.bh 91 x.cells).at a/\(Ac y 135<|(⟨s,(x.q.M.at' i).nd⟩:NV).c).at a):=h
def ZJL(h:p:=by exact λcs (x:d0×Nat)=>cs.setIfInBounds (i*sz+x.2) x.1):=h
def ZJM(h:p:=by exact λj=>(Ac bp 135 f.c).at j/\(Ac bc 135 g.c).at j/\(O5 o t r).at j/\Ec j vl ds (Q7 (x.s.al 1).1)):=h
def yN(k:q)(h:q->p:=by exact λzz=>Pre.world (St _ _<|_::_::_::_::_::_::_::_::_::_::_::HQ.H (y)) Ih zz):=h k
def ZJO(h:p:=by exact Bo (⟨s,(x.q.M.at' i).nd⟩:NV)++ZKV):=h
def dw(h:p:=by exact ⟨Nat.le_of_lt x,λ_=>x⟩):=h
def ZJQ(h:p:=by exact ⟨z.s.e,z.s.k,z.s.p,(ls l 2 0)⟩):=h
def ZJR(h:p:=by exact BC ui Xdx i):=h
def ZJS(h:p:=by exact Dn l m.key+(if V3 l m.key=true then 1 else 0)):=h
def ZJT(h:p:=by exact λx=>decide (x≠t)):=h
def ZJU(h:p:=by exact λ(i:Nat) (v:d0)=>i<=xs.length):=h
def ZJV(h:p:=by exact BG Xdx<|MJ ui i):=h
def ZJW(h:p:=by exact λe=>(e.key,e.val)):=h
def ZJX(h:p:=by exact λ(i:Nat) (v:d0)=>xs.length-i):=h
def ZJY(h:p:=by exact λi=>s.us.getD i false):=h
def Z8(h:p:=by exact ⟨h.line,h.ln⟩):=h
def ZJa(h:p:=by exact CS.H bc<|S):=h
def ZJb(h:p:=by exact λ(k:Nat)=>l.length-k):=h
def ZJc(h:p:=by exact EL (x.q.M.at' i).nd.piv r.k):=h
def ZJd(h:p:=by exact HL (N 0) k j):=h
def ZJe(h:p:=by exact ⟨L.M.fr.set k y,lo,ln,hd⟩):=h
def ZJf(h:p:=by exact λ(i:Nat) (x:Bool) (v:d0)=>i<=ms.length/\(0<i->x=true)/\(x=false->v=va/\i=0)):=h
def kD(h:p:=by exact ⟨a.holds _<|c _ h,.inr h⟩):=h
def kE(k:q)(h:q->p:=by exact λzz=>Pre.world (St _ _<|_::_::HQ.H (y)) Ih zz):=h k
def ZJi(h:p:=by exact λa=>Instr.sliceAt t (a.eval x) (some<|a.eval lo) (some<|a.eval hi) none):=h
def ZJj(h:p:=by exact ⟨nv.s.e,nv.s.k,nv.s.p,s⟩):=h
def ZJk(h:p:=by exact ⟨s,nv.s.k,nv.s.p,nv.s.m⟩):=h
def ZJl(h:p:=by exact CN nv.d):=h
def ZJm(h:p:=by exact Ga .u32 IntKind.u32.max z):=h
def ZJn(h:p:=by exact HQ.H<|x):=h
def ZJo(h:p:=by exact λ(i:Nat)=>[(0,.string s),(2,BM e),(3,aa 0),(4,BM bk),(5,aa (i:Int))]):=h
def ZJp(h:p:=by exact Cl.op ⟨ops,nx,.idle⟩):=h
def ZJq(h:p:=by exact λ(i:Nat) (v:d0)=>[(3,v),(6,vp),(7,aa (vs.length:Int)),(8,aa (i:Int))]):=h
def ZJr(h:p:=by exact λ(i:Nat)=>S.fl.length-i):=h
def ZJs(h:p:=by exact ⟨L.M.fr.set i {f with dirty:=true,nd:=nd},L.M.loads,L.M.line,L.M.hand⟩):=h
def ZJt(h:p:=by exact BQ (BQ N p p') c x):=h
def eF(h:p:=by exact Ie.mid _ (j:=1) I):=h
def ZJv(h:p:=by exact Cl.op ⟨ops,y,.wr v⟩):=h
def kF(h:p:=by exact Wr.set_mid (j:=1) I I I):=h
def ZJx(h:p:=by exact λl=>decide (t∈l.q.map Prod.fst)):=h
def aK(h:p:=by exact Ms.fU _ _):=h
def ZJz(h:p:=by exact BQ (BQ N 0 r) a x):=h
def ZJ0(h:p:=by exact λ(k:Nat)=>[(0,va),(1,aa x),(7,aa (l.length:Int)),(8,aa (k:Int))]):=h
def ZJ1(h:p:=by exact λo=>(Ac bp 135 z.c).at o/\(Ac bc 135 f.c).at o/\(O5 A t r).at o):=h
def ZJ2(h:p:=by exact ⟨f,pre.length+i,none⟩):=h
def ZJ3(h:p:=by exact ⟨x.s.e,x.s.k,x.s.p,a⟩):=h
def ZJ4(h:p:=by exact ⟨x.s.e,x.s.k,x.s.p,r⟩):=h
def ZJ5(h:p:=by exact AG vb 5 dt (zs)::Bo nv):=h
def ZJ6(h:p:=by exact λ(u:Unit)=>St w [] []):=h
def ZJ7(h:p:=by exact Sc.o4 m.T):=h
def ZJ8(h:p:=by exact Dn l m.key):=h
def ZJ9(h:p:=by exact E5 (a.SL<|Na 16).val b.by'):=h
def ZKA(h:p:=by exact λ(i:Nat)=>[(0,va),(5,va),(6,aa (l.length:Int)),(7,aa (i:Int))]):=h
def ZKB(h:p:=by exact ⟨l.b,v.1,v.2,Lt.UL l.m t wr⟩):=h
def ZKC(h:p:=by exact ⟨s.e,s.k,s.p,K⟩):=h
def WA(k:q)(h:q->p:=by exact λzz=>Pre.fact uC zz):=h k
def ZKE(h:p:=by exact Ie.c (⟨t,k,1,0,0,false,false,ms0,false,Na 16,false⟩:Ie)):=h
def ZKF(h:p:=by exact D2 (x.q.M.at' i).nd<|m.oT sq a):=h
def ZKG(h:p:=by exact DT (x.q.M.at' i).nd<|m.oT sq a):=h
def yO(h:p:=by exact En.WU _):=h
def Wq(h:p:=by exact Ms.pd _):=h
def ZKJ(h:p:=by exact Value.int .u8):=h
def ZKK(h:p:=by exact λ(u:Unit)=>0):=h
def ZKL(h:p:=by exact λq=>ab (q.toNat:Int)):=h
def ZKM(h:p:=by exact λa=>Instr.sliceAt t (a.eval x) (some<|a.eval lo) none none):=h
def ZKN(h:p:=by exact HC.H z<|m.Sr<|oV N m i m.T):=h
def ZKO(h:p:=by exact IntKind.u64.wrap<|b.by'+a.by'):=h
def ZKP(h:p:=by exact ⟨f,pre.length,none⟩):=h
def ZKQ(h:p:=by exact Rq x.lt++x.q.H x.bc):=h
def ZKR(h:p:=by exact λf=>(Ac bn 135 nv.c).at f/\Ec f vl ds (Q7 (x.s.al 2).1)):=h
def ZKS(h:p:=by exact λq=>!decide (q.2=b)):=h
def kH(h:p:=by exact Lt.kP.2<|.inr h):=h
def ZKU(h:p:=by exact LT b x y<|m):=h
def ZKV(h:p:=by exact Ot b r::x.H):=h
def ZKW(h:p:=by exact λm h=>Df.frame (F:=[]) (Xc4 y b t) h trivial):=h
def ZKX(h:p:=by exact IntKind.u8.wrap<|(k:Int)/17+(i:Int)*((k:Int)/4352)):=h
def ZKY(h:p:=by exact ⟨ops,nx+1,.idle⟩):=h
def ZKZ(k:q)(h:q->p:=by exact λzz=>Pre.world (St _ _<|_::_::_::_::_::_::_::_::_::_::_::_::_::_::_::HQ.H (z1)) Ih zz):=h k
def XG(h:p:=by exact Wr.mid _ (j:=3) I):=h
def ZKb(h:p:=by exact λ(i:Nat)=>i<=S.fl.length):=h
def ZKc(h:p:=by exact λe w' ⟨b,he,hp,h'⟩=>⟨b,he,hp,h'.perm sV⟩):=h
def ZKd(h:p:=by exact λD=>(O5 i t r).at D/\(Ac x.bh 91 x.cells).at D):=h
def ZKe(h:p:=by exact Ow x.hm t r f.d g.d i jd):=h
def ZKf(h:p:=by exact ⟨n,s.k,s.p,s.m⟩):=h
def ZKg(h:p:=by exact ⟨s.e,s.k,s.p,o⟩):=h
def ZKh(h:p:=by exact LT b x y m):=h
def ZKi(h:p:=by exact Bs (f e) k<0):=h
def ZKj(h:p:=by exact Bs e.key k<0):=h
def yP(h:p:=by exact Wr.set_mid (j:=2) I I I):=h
def ZKl(h:p:=by exact λg=>CR g bc S/\(Ac p 277 (wn (t,b)).c).at g):=h
def ZKm(h:p:=by exact ⟨L.M.fr.set i f,L.M.loads,L.M.line,L.M.hand⟩):=h
def ZKn(h:p:=by exact Bz ui i):=h
def YQ(h:p:=by exact En.oQ _):=h
def aP(h:p:=by exact En.pd _):=h
def ZKq(h:p:=by exact λa=>(Ac bk 77 k.c).at a/\Ec a va En.enc l):=h
def ZKr(h:p:=by exact λd=>Ec d va En.enc l):=h
def ZKs(h:p:=by exact ⟨ops,z,ph⟩):=h
def ZKt(h:p:=by exact ⟨z.s.e,z.s.k,z.s.p,((σ 9).2.2.getD 0 sv0)⟩):=h
def ZKu(h:p:=by exact λa=>Instr.indexAt t (a.eval x)<|a.eval i):=h
def ZKv(h:p:=by exact AG l 77 dZ (KB nv.d)::Ac e 135 nv.c::ZJG):=h
def ZKw(h:p:=by exact Builtin.zeroCells (<-zeroValue e).cells m):=h
def aQ(h:p:=by exact St.init x):=h
def ZKy(h:p:=by exact WR nb nf f<|b.ops n):=h
def ZKz(h:p:=by exact λa b=>∀k,a.b=some k->b.b=some k->False):=h
def ZK0(h:p:=by exact λa=>Instr.typeAssert (a.eval x) t u true):=h
def ZK1(h:p:=by exact λe=>(Oe z va<|p+1).at e/\Ec e va dt l):=h
def ZK2(h:p:=by exact Mo.SI M.fr (OV M.can M.Ov M.hand).2):=h
def ZK3(h:p:=by exact O5 i t r::x.H):=h
def ZK4(h:p:=by exact λa=>Instr.index t (a.eval x)<|a.eval i):=h
def ZK5(h:p:=by exact ⟨f.s.e,(ls l 2 0),(ls l 2 1),(ls l 2 2)⟩):=h
def kG(h:p:=by exact ⟨x.1,.inl x.2⟩):=h
end
namespace Go
abbrev aa:=Value.int .i64
abbrev ab:=Value.int .u8
abbrev am:=Value.int .u64
abbrev ap:Int:=((0:Nat):Int)
abbrev av:Value:=.pointer none
abbrev aB:=Exit->Act->World->Prop
abbrev aO:=Act->World->Prop
abbrev aU:=World->Prop
abbrev bf:=List Int
abbrev bi:=List Value
abbrev bm:=List Nat
abbrev bo:=List Bool
abbrev bv:=List Oper
abbrev bx:=List Operand
abbrev bz:=Array Bool
abbrev bM:=Array Oper
abbrev ca:=Array TypeId
abbrev cb:=Array Value
abbrev ce:=Option Addr
abbrev cf:=Option Int
abbrev d0:=Value
abbrev d4:=TypeId
abbrev d5:=Operand
abbrev d6:=IntKind
abbrev d7:=World
abbrev d8:=Program
abbrev pj:=@List.mem_cons
abbrev pq:=@Int.ediv_ediv_of_nonneg
abbrev pt:=@List.cons_append
abbrev pz:=@List.length_cons
abbrev pA:=@Go.IntKind.wrap_u64
abbrev pB:=@Int.eq_ofNat_of_zero_le
abbrev pC:=@List.drop_eq_getElem_cons
abbrev pD:=@List.take_succ_cons
abbrev pE:=@List.getElem?_eq_getElem
abbrev pF:=@List.mem_of_mem_take
abbrev pG:=@Nat.lt_or_ge
abbrev pH:=@List.getElem?_eq_none
abbrev pI:=@List.length_take
abbrev pJ:=@List.length_drop
abbrev pK:=@List.length_append
abbrev pL:=@List.getElem?_append_left
abbrev pM:=@List.getElem?_take
abbrev pN:=@if_pos
abbrev pO:=@List.getElem?_append_right
abbrev pP:=@List.getElem?_drop
abbrev pQ:=@if_neg
abbrev pR:=@List.eq_nil_of_length_eq_zero
abbrev pS:=@List.replicate_succ
abbrev pT:=@List.flatten_cons
abbrev pU:=@List.drop_zero
abbrev pW:=@Nat.add_mul
abbrev pX:=@List.drop_drop
abbrev pY:=@Array.getElem?_eq_some_iff
abbrev pZ:=@List.take_of_length_le
abbrev qb:=@Nat.le_refl
abbrev qc:=@Nat.zero_le
abbrev qe:=@Nat.mul_comm
abbrev qf:=@Nat.mod_lt
abbrev qg:=@Nat.eq_zero_or_pos
abbrev qh:=@List.mem_append_left
abbrev qj:=@List.mem_map
abbrev qm:=@List.mem_range
abbrev qp:=@List.getElem?_eq_some_iff
abbrev qq:=@List.getElem?_map
abbrev qt:=@List.getElem?_range
abbrev qv:=@Option.map_some
abbrev qx:=@Option.getD_some
abbrev qy:=@Nat.mul_le_mul_right
abbrev qz:=@Nat.one_mul
abbrev qA:=@List.ext_getElem?
abbrev qB:=@Nat.mul_eq_zero
abbrev qC:=@Go.Sem.run_bind
abbrev qD:=@Go.Sem.run_pure
abbrev qE:=@Go.Result.andThen_ok
abbrev qF:=@List.map_toArray
abbrev qG:=@List.map_cons
abbrev qH:=@List.map_nil
abbrev qJ:=@Go.heap_alloc_new
abbrev qK:=@Nat.zero_add
abbrev qM:=@Nat.le_trans
abbrev qN:=@Array.getElem?_eq_none
abbrev qO:=@Go.Lib.hid
abbrev qP:=@Int.le_of_lt
abbrev qQ:=@List.append_assoc
abbrev qR:=@List.map_append
abbrev qS:=@Nat.add_assoc
abbrev qT:=@Go.RowKit.Below.refl
abbrev qU:=@List.nil_append
abbrev qV:=@List.take_append_drop
abbrev qW:=@Bool.and_eq_true
abbrev qX:=@if_true
abbrev qY:=@List.length_map
abbrev qZ:=@List.map_replicate
abbrev ra:=@List.drop_succ_cons
abbrev re:=@Nat.min_eq_left
abbrev rf:=@Go.wpList_store_row
abbrev rh:=@Go.bodyPost_ret
abbrev ri:=@Go.below_setRow
abbrev rj:=@List.getElem?_toArray
abbrev rp:=@Nat.add_comm
abbrev rr:=@List.getElem?_cons_succ
abbrev ru:=@List.getElem?_replicate
abbrev rv:=@Option.map_eq_some_iff
abbrev ry:=@List.mem_of_getElem?
abbrev rz:=@Bool.eq_iff_iff
abbrev rA:=@decide_eq_true_eq
abbrev rB:=@List.mem_append
abbrev rC:=@List.mem_replicate
abbrev rD:=@Int.toNat_natCast
abbrev rE:=@Go.World.size_alloc
abbrev rF:=@Array.length_toList
abbrev rG:=@List.map_map
abbrev rH:=@List.map_set
abbrev rI:=@decide_eq_false_iff_not
abbrev rJ:=@List.set_append_right
abbrev rK:=@List.take_succ_eq_append_getElem
abbrev rL:=@List.set_cons_zero
abbrev rM:=@Bool.eq_false_iff
abbrev rN:=@Array.getD_eq_getD_getElem?
abbrev rO:=@Nat.le_of_ble_eq_true
abbrev rP:=@Array.getElem?_setIfInBounds
abbrev rQ:=@Ne.symm
abbrev rR:=@List.any_eq_true
abbrev rS:=@beq_iff_eq
abbrev rT:=@List.all_eq_true
abbrev rU:=@List.mem_singleton
abbrev rV:=@Bool.not_eq_true'
abbrev rW:=@List.mem_cons_self
abbrev rX:=@List.not_mem_nil
abbrev rY:=@or_false
abbrev rZ:=@Bool.false_and
abbrev r5:=@Bool.false_eq_true
abbrev r9:=@if_false
abbrev sf:=@Nat.add_zero
abbrev sg:=@Nat.lt_of_lt_of_le
abbrev sh:=@List.nodup_nil
abbrev si:=@List.sublist_cons_self
abbrev sj:=@List.nil_sublist
abbrev sr:=@List.mem_cons_of_mem
abbrev ss:=@List.nodup_cons
abbrev su:=@List.nodup_append
abbrev sw:=@List.mem_append_right
abbrev sx:=@List.take_length_add_append
abbrev sA:=@List.drop_length_add_append
abbrev sB:=@List.set_append_left
abbrev sC:=@List.set_cons_succ
abbrev sD:=@List.take_set
abbrev sE:=@List.take_left
abbrev sF:=@Int.natCast_mul
abbrev sG:=@List.append_nil
abbrev sH:=@List.take_add_one
abbrev sI:=@List.length_set
abbrev sJ:=@List.set_eq_take_append_cons_drop
abbrev sK:=@List.take_append_of_le_length
abbrev sL:=@List.drop_append_of_le_length
abbrev sM:=@List.length_pos_iff
abbrev sN:=@Nat.sub_mul
abbrev sO:=@Array.toList_inj
abbrev sP:=@Go.size_zeroCells
abbrev sQ:=@List.perm_middle
abbrev sR:=@List.length_nil
abbrev sS:=@decide_eq_false
abbrev sT:=@decide_eq_true
abbrev sU:=@List.Perm.refl
abbrev sV:=@List.perm_append_comm
abbrev sW:=@of_decide_eq_true
abbrev sY:=@List.getD_eq_getElem?_getD
abbrev sZ:=@Nat.mul_one
abbrev s5:=@List.length_singleton
abbrev s6:=@Nat.not_lt_zero
abbrev s7:=@Array.getElem?_toList
abbrev s8:=@Array.getElem?_eq_getElem
abbrev s9:=@List.length_replicate
abbrev ta:=@List.eraseIdx_cons_succ
abbrev tb:=@List.getElem?_set
abbrev tc:=@List.mem_filter
abbrev te:=@decide_eq_decide
abbrev tf:=@List.replicate_append_replicate
abbrev tg:=@List.take_length
abbrev th:=@List.eraseIdx_eq_take_drop_succ
abbrev ti:=@Option.isNone_iff_eq_none
abbrev tj:=@List.mem_iff_getElem?
abbrev tm:=@List.length_filter_le
abbrev tp:=@List.range_succ
abbrev tq:=@List.filter_append
abbrev tr:=@List.length_range
abbrev tt:=@List.length_take_le
abbrev tu:=@Bool.and_false
abbrev tA:=@List.cons_sublist_cons
abbrev tB:=@Int.le_trans
abbrev tC:=@Nat.le_succ
abbrev tD:=@List.findIdx?_cons
abbrev tE:=@List.getElem?_set_self
abbrev tF:=@List.mem_or_eq_of_mem_set
abbrev tG:=@List.Sublist.refl
abbrev tH:=@List.filter_cons
abbrev tI:=@List.foldl_append
abbrev tJ:=@List.takeWhile_cons
abbrev tK:=@List.pairwise_iff_getElem
abbrev tL:=@List.takeWhile_sublist
abbrev tM:=@List.all_eq_false
abbrev tN:=@Nat.lt_succ_iff_lt_or_eq
abbrev tO:=@Bool.true_and
abbrev tP:=@Int.fdiv_eq_ediv_of_nonneg
abbrev tQ:=@List.pairwise_cons
abbrev tR:=@List.mem_map_of_mem
abbrev tS:=@List.perm_append_comm_assoc
abbrev tT:=@Nat.add_sub_cancel_left
abbrev tU:=@List.pairwise_append
abbrev tV:=@List.take_sublist
abbrev tW:=@List.getElem?_set_ne
abbrev tX:=@List.sublist_append_right
abbrev tY:=@Classical.byContradiction
abbrev tZ:=@List.sum_cons
abbrev ua:=@ByteArray.size_extract
abbrev ud:=@List.getElem?_take_of_lt
end Go
namespace Go.Proofs.YtloldofjddbjoaaGreat
open Go.RowKit
variable {t e:d4} {v u:d0} {n size base B g:Nat} {w W:d7} {xs cs:bi} {P:d8} {bs zs:bf} {a:Int} {d:TypeDesc}
def le (n:Int):Nat->bf
 |0=>[]
 |w+1=>n%256::le (n/256) w
def num:bf->Int
 |[]=>0
 |b::l=>b+256*num l
def BE (w:Nat):∀n,(le n w).length=w:=by
 induction w with
 |zero=>intro n; rfl
 |succ w ih=>intro n; simp[le,ih]
def Pu (w:Nat):∀n,∀b∈le n w,0<=b/\b<256:=by
 induction w with
 |zero=>intro n b h; simp[le] at h
 |succ w ih =>
  intro n b h;simp only[le,pj] at h;rcases h with rfl|h
  .omega
  exact ih _ b h
def Xhq (n:Int) (w:Nat):n/256/256^w=n/256^(w+1):=by
 rw[Int.pow_succ,Int.mul_comm,pq K]
def Xbn (w:Nat):∀n,le n (w+1)=le n w++[n/256^w%256]:=by
 induction w with
 |zero=>intro n; simp[le]
 |succ w ih =>
  intro n;rw[le,ih<|n/256,le,pt,Xhq]
def Xjv (l:bf) (h:∀b∈l,0<=b/\b<256):0<=num l/\num l<256^l.length:=by
 induction l with
 |nil=>simp[num]
 |cons x l ih =>
  have z:=h x j;have a:=ih<|λb y=>h b<|by simp[y]
  simp only[num,pz,Int.pow_succ];omega
def Xhr (n:Int) (w:Nat) (h:0<=n):n%256+256*(n/256%256^w)=n%256^(w+1):=by
 obtain⟨m,rfl⟩:=pB h
 have e:(m:Int)%256^(w+1)=((m%(256*256^w):Nat):Int):=by
  rw[Int.pow_succ,Int.mul_comm]; simp only[sF,Int.natCast_pow,Int.natCast_emod,Int.cast_ofNat_Int]
 rw[e,Nat.mod_mul];simp only[Int.natCast_add,sF,Int.natCast_pow,Int.natCast_emod,Int.natCast_ediv,Int.cast_ofNat_Int]
def Xjw (w:Nat):∀n,0<=n->num (le n w)=n%256^w:=by
 induction w with
 |zero=>intro n _; simp[le,num]
 |succ w ih =>
  intro n h;simp only[le,num];rw[ih (n/256) J,Xhr n w h]
def dg (a b:Int) (h:0<=a) (d:a<72057594037927936) (z:0<=b) (c:b<256):bits .or .u64 (IntKind.u64.wrap<|a*256) b=b+256*a:=by
 rw[pA,Int.emod_eq_of_lt J J];obtain⟨x,rfl⟩:=pB h;obtain⟨y,rfl⟩:=pB z;have e:(x:Int)*256=((2^8*x:Nat):Int):=J;rw[e,u64_or_nat _ _ J J,<-Nat.two_pow_add_eq_or_of_lt J];omega
def Xjx (b:Int) (h:0<=a):a.tmod b=a%b:=Int.tmod_eq_emod_of_nonneg h
def Xjy (b:Int) (h:a<0):a.tmod b = -((-a)%b):=by
 have:a = -(-a):=J;rw[this,Int.neg_tmod,Xjx b J];simp
def Xhs {a b:Nat} (h:a<=b):(256:Int)^a<=256^b:=by
 have e:∀n:Nat,(256:Int)^n=((256^n:Nat):Int):=λn=>by simp only[Int.natCast_pow,Int.cast_ofNat_Int]
 rw[e,e];exact Int.ofNat_le.2<|Nat.pow_le_pow_right K h
def Q2 (l:bf) (a j:Nat) (h:a<l.length):num ((l.drop a).take<|j+1)=l[a]?.getD 0+256*num ((l.drop<|a+1).take j):=by
 rw[pC h,pD,num,pE h]; rfl
def Q3 (l:bf) (a j:Nat) (x:∀z∈l,0<=z/\z<256) (hj:j<=7):0<=num ((l.drop a).take j)/\num ((l.drop a).take j)<72057594037927936:=by
 have h:=Xjv ((l.drop a).take j)<|λb hm=>x b<|List.mem_of_mem_drop<|pF hm
 refine⟨h.1,Int.lt_of_lt_of_le h.2 ?_⟩;have:((l.drop a).take j).length<=7:=uj;have y:=Xhs this;simpa using y
def XiI {l:bf} (x:∀z∈l,0<=z/\z<256) (i:Nat):0<=l[i]?.getD 0/\l[i]?.getD 0<256:=by
 rcases pG i l.length with h|h
 .rw[pE h]; exact x _<|List.getElem_mem h
 rw[pH h]; decide
inductive Sc where
 |i (k:d6)
 |b
 |s
abbrev cB:=List Sc
def Sc.ok:Sc->d0->Prop
 |.i k,v=>∃z,v=.int k z/\(Lit.int k z).wf=true
 |.b,v=>∃c,v=.bool c
 |.s,v=>∃t:ByteArray,v=.string t/\t.size<=maxLen
def CO (P:d8) (fl:d4->Option (cB)):List Field->cB->Option (cB)
 |[],acc=>some acc
 |f::fs,acc=>match fl f.type with
  |some l=>if f.offset=acc.length/\P.cellsOf f.type=l.length then CO P fl fs (acc++l) else none
  |none=>none
def flat (P:d8):Nat->d4->Option (cB)
 |0,_=>none
 |n+1,t=>match P.underlying t with
  |some .bool=>some [.b]
  |some (.int k)=>some [.i k]
  |some .string=>some [.s]
  |some (.struct fs)=>match CO P (flat P n) fs.toList [] with
   |some l=>if P.cellsOf t=l.length then some l else none
   |none=>none
  |some (.array m e)=>match flat P n e with
   |some l=>if P.cellsOf e=l.length/\P.cellsOf t=m*l.length/\0<l.length then some (List.replicate m l).flatten else none
   |none=>none
  |_=>none
def Kinds (ks:cB) (cs:bi):Prop:=cs.length=ks.length/\∀(j:Nat) (k:Sc) (v:d0),ks[j]?=some k->cs[j]?=some v->k.ok v
def Kinds.append {a b:cB} (c:Kinds a<|cs.take a.length) (d:Kinds b<|cs.drop a.length):Kinds (a++b) cs:=by
 obtain⟨l1,z⟩:=c;obtain⟨l2,y⟩:=d;simp only[pI] at l1;simp only[pJ] at l2;refine⟨by rw[pK]; omega,λj k v h x=>?_⟩;by_cases hj:j<a.length
 .rw[pL hj] at h;exact z j k v h<|by rw[pM,pN hj]; exact x
 rw[pO J] at h;exact y (j-a.length) k v h<|by rw[pP]; rw[show a.length+(j-a.length)=j from by omega]; exact x
def Kinds.one {k:Sc} (h:k.ok v):Kinds [k] [v]:=by
 refine⟨rfl,λj a z x y=>?_⟩
 match j with
 |0=>simp at x y; subst x y; exact h
 |j+1=>simp at x
section
variable {H:Type} {enc:d4×d0->H} {P:d8} {w:d7} {base:Nat} {spare:Nat->Bool} {held:Bool}
open Go.ChangeShapes Go.WideShapes
def Of (n:Nat) (j:∀(t:d4) (l:cB),flat P n t=some l->∀(a:Nat) (cs:bi) (x:DataW H×List MemPlace),DataW.trod enc P w base spare held a t cs=some x->Kinds l cs)
 (cs:bi) (fs:List Field):∀(z l:cB),CO P (flat P n) fs z=some l->Kinds z (cs.take z.length) ->
 (∀f∈fs,∃(m:Nat) (y:DataW H×List MemPlace),DataW.trod enc P w base spare held m f.type ((cs.drop f.offset).take<|P.cellsOf f.type)=some y)->Kinds l (cs.take l.length):=by
 induction fs with
 |nil =>
  intro z l h b _;simp only[CO,Option.some.injEq] at h;subst h;exact b
 |cons f fs IH =>
  intro z l h b d;simp only[CO] at h;cases hfl:flat P n f.type with
  |none=>rw[hfl] at h; simp at h
  |some l1 =>
   rw[hfl] at h;simp only at h;by_cases hc:f.offset=z.length/\P.cellsOf f.type=l1.length
   .rw[pN hc] at h;obtain⟨m,y,o⟩:=d f A3;have c:=j f.type l1 hfl m _ y o;rw[hc.1,hc.2] at c;refine IH (z++l1) l h ?_<|λg e=>d g<|by simp[e]
    have k:(cs.take (z++l1).length).take z.length=cs.take z.length:=by rw[List.take_take]; congr 1; simp
    have i:(cs.take (z++l1).length).drop z.length=(cs.drop z.length).take l1.length:=by rw[List.drop_take]; congr 1; simp
    exact Kinds.append (by rw[k]; exact b)<|by rw[i]; exact c
   rw[pQ hc] at h; simp at h
def Kinds.replicate {l:cB} (m:Nat):∀(cs:bi),cs.length=m*l.length->(∀i,i<m->Kinds l ((cs.drop<|i*l.length).take l.length))->Kinds (List.replicate m l).flatten cs:=by
 induction m with
 |zero =>
  intro cs h _;have:cs=[]:=pR sv;subst this;exact⟨rfl,λj k v y b=>by simp at y⟩
 |succ m ih =>
  intro cs h hi;rw[pS,pT];have x:=hi 0 J;rw[Nat.zero_mul,pU] at x;refine Kinds.append x<|ih (cs.drop l.length) (by rw[pJ,h,pW]; omega)<|λi a=>?_
  have z:=hi (i+1) J;rw[pX];rw[show l.length+i*l.length=(i+1)*l.length from by rw[pW]; omega];exact z
def di (n:Nat):∀(t:d4) (l:cB),flat P n t=some l->∀(y:Nat) (cs:bi) (x:DataW H×List MemPlace),DataW.trod enc P w base spare held y t cs=some x->Kinds l cs:=by
 induction n with
 |zero=>intro t l h; simp[flat] at h
 |succ n ih =>
  intro t l h y cs x a;unfold flat at h;split at h
  .rename_i hu;simp only[Option.some.injEq] at h;subst h;obtain⟨b,rfl,_⟩:=DataW.trod_bool hu a;exact Kinds.one ⟨b,rfl⟩
  .rename_i k hu;simp only[Option.some.injEq] at h;subst h;obtain⟨z,rfl,_,A⟩:=DataW.trod_int hu a;exact Kinds.one ⟨z,rfl,A⟩
  .rename_i hu;simp only[Option.some.injEq] at h;subst h;obtain⟨s,rfl,_,u⟩:=DataW.trod_string hu a;exact Kinds.one ⟨s,rfl,u⟩
  .rename_i fs hu;cases hff:CO P (flat P n) fs.toList [] with
   |none=>rw[hff] at h; simp at h
   |some l1 =>
    rw[hff] at h;simp only at h;by_cases hc:P.cellsOf t=l1.length
    .rw[pN hc] at h;simp only[Option.some.injEq] at h;subst h;obtain⟨xs,m,_,_,d,q,p⟩:=DataW.trod_struct hu a
     have o:=Of (enc:=enc) (w:=w) (base:=base) (spare:=spare) (held:=held) n ih cs fs.toList [] l1 hff ⟨rfl,λj k v o B=>by simp at o⟩ (λf g=>by
      obtain⟨i,hi⟩:=List.getElem?_of_mem g;have c:fs[i]?=some f:=jX;have r:i<fs.size:=(pY.1 c).1;have:=p i f c;rw[pE J] at this
      exact⟨m,_,this⟩)
     rwa[pZ J] at o
    rw[pQ hc] at h; simp at h
  .rename_i m e hu;cases hfe:flat P n e with
   |none=>rw[hfe] at h; simp at h
   |some l1 =>
    rw[hfe] at h;simp only at h;by_cases hc:P.cellsOf e=l1.length/\P.cellsOf t=m*l1.length/\0<l1.length
    .rw[pN hc] at h;simp only[Option.some.injEq] at h;subst h;obtain⟨xs,m',_,_,d,q,p⟩:=DataW.trod_array hu a;refine Kinds.replicate m cs J<|λi hi=>?_
     have:=p i hi;rw[pE J,hc.1] at this;exact ih e l1 hfe m' _ _ this
    rw[pQ hc] at h; simp at h
  simp at h
end
def Rd (w:d7) (B:Nat) (A:ce) (xs:bi):Prop :=
 xs≠[]->∃b off,A=some ⟨b,off,none⟩/\b<B/\∀j u,xs[j]?=some u->w.cell? ⟨b,off+j,none⟩=some u
section
variable {w w':d7} {B B':Nat} {A:ce} {xs:bi}
def Rd.nil:Rd w B A []:=λh=>absurd rfl h
def Rd.keep (h:Rd w B A xs) (z:∀p:Addr,p.block<B->w'.cell? p=w.cell? p):Rd w' B A xs:=λy=>by
 obtain⟨b,off,e,x,c⟩:=h y
 exact⟨b,off,e,x,λj u a=>(z _ x).trans<|c j u a⟩
def Rd.more (h:Rd w B A xs) (z:B<=B'):Rd w B' A xs:=λx=>by
 obtain⟨b,off,e,a,y⟩:=h x
 exact⟨b,off,e,J,y⟩
def Rd.below (h:Rd w B A xs) (x:Below B w w'):Rd w' B A xs:=h.keep λ_ y=>x.cell y
def Rd.alloc (h:Rd w B A xs) (x:B<=w.heap.size) (o:Obj):Rd (w.alloc o) B A xs:=h.keep λp y=>World.cell?_alloc_lt w o p J
def Rd.drewN (h:Rd w B A xs) (n:Nat):Rd (w.drewN n) B A xs:=h
def Rd.grown (h:Rd w B A xs) {x:Option Nat} (z:w.grownBy w' x) (a:B<=w.heap.size) (y:∀g,x=some g->B<=g):Rd w' B A xs :=
 h.keep λp b=>World.cell?_of_block<|z.block p.block J (λe=>by have:=y _ e.symm; omega)
def Rd.at_ {k:Nat} (h:Rd w B A xs) (x:k<xs.length):∃b off,A=some ⟨b,off,none⟩/\b<B/\(∀j u,xs[j]?=some u->w.cell? ⟨b,off+j,none⟩=some u)/\w.cell? ⟨b,off+k,none⟩=some xs[k]:=by
 obtain⟨b,off,e,z,y⟩:=h<|by intro e; subst e; simp at x
 exact⟨b,off,e,z,y,y k _<|pE x⟩
end
section
variable {H:Type} {enc:d4×d0->H} {P:d8} {w:d7} {spare:Nat->Bool} {held:Bool}
open Go.ChangeShapes Go.WideShapes Go.Deep
def Q4 {a:Addr} (h:w.cells? base a n=some cs):base<=a.block/\cs.length=n/\∀j,j<n->w.cell? (a.add j)=cs[j]?:=by
 obtain⟨y,z,x⟩:=World.cells?_some h;exact⟨y,z,x⟩
def XlV {ks:cB} {v:d0} {d:DataW H} {p:List MemPlace} {r:Reach} {U:Nat} (R:P.underlying t=some (.slice e)) (Z:flat P n e=some ks) (B:P.cellsOf e=ks.length) (g:0<ks.length)
 (hv:Value.okWide P w r U t v) (h:DataW.Trod enc P w 0 spare held t v d p) :
 ∃(A:ce) (len cap:Nat) (xs:bi),v=.slice A len cap/\len<=cap/\cap<=maxLen/\xs.length=len*ks.length/\Rd w w.heap.size A xs/\(∀i,i<len->Kinds ks ((xs.drop<|i*ks.length).take ks.length)):=by
 obtain⟨A,len,cap,rfl⟩:=okWide_slice R hv;have M:∀x∈p,x.block<w.heap.size:=by obtain⟨m,hm⟩:=h; exact DataW.trod_lt m _ _ _ hm
 obtain⟨S,hf⟩:=h;rcases open_slice R hf with⟨f,_⟩|⟨a,O,N,m,W,D,Pl,f,_,hl,hm,G,Q,hi⟩
 .simp[Value.cells] at f;obtain⟨rfl,rfl,rfl⟩:=f;exact⟨none,0,0,[],rfl,qb _,qc _,A3,Rd.nil,λi hi=>absurd hi A1⟩
 simp[Value.cells] at f;obtain⟨rfl,rfl,rfl⟩:=f;have V:len<=m:=by rw[G]; split<;>omega
 rw[B] at hi
 -- the cells,one by one
 have z:∀j,j<len*ks.length->∃u,w.cell? (a.add j)=some u:=by
  intro j hj;have hq:j/ks.length<len:=Nat.div_lt_of_lt_mul<|by rw[qe]; exact hj
  obtain⟨cs',K,_⟩:=hi (j/ks.length) A1;obtain⟨_,J,k⟩:=Q4 K;have X:j%ks.length<ks.length:=qf _ g;have:=k (j%ks.length) X;rw[pE A1,Go.Deep.add_add] at this;rw[show j/ks.length*ks.length+j%ks.length=j from Nat.div_add_mod' _ _] at this;exact⟨_,this⟩
 refine⟨some a,len,cap,(List.range<|len*ks.length).map λj=>(w.cell?<|a.add j).getD undef,rfl,hl,hm,A3,?_,?_⟩
 .intro q
  have y:0<len*ks.length:=by
   rcases qg (len*ks.length) with f|f
   .rw[f] at q; simp at q
   exact f
  obtain⟨u,o⟩:=z 0 y;have T:0<len:=Nat.pos_of_mul_pos_right y
  have c:a.spot=none:=by
   have:=World.cell?_spot o;simpa [Addr.add] using this
  obtain⟨b,off,spot⟩:=a;simp only at c;subst c;refine⟨b,off,rfl,?_,λj u o=>?_⟩
  .have:MemPlace.cell b off∈p:=by
    simp only[Prod.mk.injEq] at Q;rw[Q.2];refine qh _ ?_;unfold MemPlace.row;rw[qj];refine⟨0,?_,A3⟩;rw[qm,B];exact Nat.mul_pos A1 g
   exact M _ this
  have hj:j<len*ks.length:=by
   have:=(qp.1 o).1;simpa using this
  simp only[qq,qt hj,qv,Option.some.injEq] at o;obtain⟨u',l⟩:=z j hj;rw[l] at o;simp only[qx] at o;subst o;have Y:(⟨b,off,none⟩:Addr).add j=⟨b,off+j,none⟩:=gQ;rw[Y] at l;exact l
 intro i s;obtain⟨cs',K,C⟩:=hi i A1;obtain⟨_,J,k⟩:=Q4 K;have F:=di n e ks Z W cs' _ C;have E:(i+1)*ks.length<=len*ks.length:=qy _ s;rw[pW,qz] at E
 have L:((((List.range<|len*ks.length).map λj=>(w.cell?<|a.add j).getD undef).drop<|i*ks.length).take ks.length)=cs':=by
  apply qA;intro j;by_cases hj:j<ks.length
  .rw[pM,pN hj,pP];simp only[qq,qt (show i*ks.length+j<len*ks.length by omega),qv];have:=k j hj;rw[Go.Deep.add_add] at this;rw[this,pE A1];rfl
  rw[pM,pQ hj,pH A1]
 rw[L];exact F
end
def XlU {k:d6} (b:xs.length=n*1) (h:∀i,i<n->Kinds [Sc.i k] ((xs.drop<|i*1).take 1)):∃zs:bf,xs=zs.map (Value.int k)/\zs.length=n/\∀z∈zs,(Lit.int k z).wf=true:=by
 induction xs generalizing n with
 |nil=>exact⟨[],rfl,jZ,j⟩
 |cons x xs ih =>
  cases n with
  |zero=>simp at b
  |succ n =>
   obtain⟨zs,e,g,d⟩:=ih (n:=n) jZ (λi hi=>by have:=h (i+1) J; simpa using this);obtain⟨_,f⟩:=h 0 J;obtain⟨z,c,w0⟩:=f 0 (.i k) x rfl j;subst e c;exact⟨z::zs,rfl,by simp[g],λy a=>by rcases pj.1 a with rfl|a; exact w0; exact d y a⟩
structure App (P:d8) (t e:d4) (size bytes:Nat):Prop where
 ty:P.underlying t=some (.slice e)
 info:∃i z,P.info? e=some i/\i.zero=some z/\i.size=size/\i.bytes=bytes/\z.cells.size=size
 pos:0<size
def Xcj {z:d0} {bytes:Nat} (ty:P.underlying t=some (.slice e)) (h:(P.info? e).map (λi=>(i.zero,i.size,i.bytes))=some (some z,size,bytes)) (y:z.cells.size=size) (b:0<size):App P t e size bytes:=by
 obtain⟨i,hi,a,c,x⟩:=info_parts h;exact⟨ty,⟨i,z,hi,a,c,x,y⟩,b⟩
section
variable {P:d8} {w:d7} {t e:d4} {size bytes:Nat}
def dj (T:App P t e size bytes) (ty:d4) (base:Nat) (v:d0) (n:Nat) (xs:bi) (y:w.ownsRow base e size v n xs)
 (B:Nat) (A:ce) (m c:Nat) (x:bi) (H:x.length=m*size) (G:Rd w B A x) (L:∀u∈x,u.oneCell'=true)
 (p:n+m<=maxLen) (f:(n+m)*bytes<=140737488355328) (l:base<=w.heap.size) :
 ∃o w',(Builtin.append_ #[t,t] ty #[v,.slice A m c]).run P w=.ok o w'/\w'.ownsRow base e size o (n+m) (xs++x)/\w.grownBy w' v.ownBlock/\(o.ownBlock=v.ownBlock\/o.ownBlock=some w.heap.size):=by
 obtain⟨s,⟨i,z,hi,S,k,q,C⟩,E⟩:=T;cases A with
 |none =>
  have R:x=[]:=by
   rcases x with _|⟨u,r⟩
   .rfl
   obtain⟨b,off,h,_⟩:=G A3; cases h
  subst R
  have hm:m=0:=by
   have:m*size=0:=by simpa using H.symm
   rcases qB.1 this with h|h
   .exact h
   omega
  subst hm
  have a:(Builtin.append_ #[t,t] ty #[v,.slice none 0 c]).run P w=.ok v w:=by
   rcases y.2 with⟨rfl,rfl⟩|⟨g,cap,M,rfl,_,_,D,_⟩
   .simp[Builtin.append_,run_underlying s,sizeOf,typeInfo,hi,Builtin.lenOf,Builtin.firstCells]
   simp[Builtin.append_,run_underlying s,sizeOf,typeInfo,hi,Builtin.lenOf,Builtin.firstCells,D,storeCells]
  exact⟨v,w,a,dQ,World.grownBy.refl w _,.inl rfl⟩
 |some ad =>
  have d:∀j u,x[j]?=some u->w.cell? (ad.add j)=some u:=by
   intro j u F;obtain⟨b,off,h,_,O⟩:=G<|by intro e; subst e; simp at F
   simp only[Option.some.injEq] at h;subst h;have:=O j u F;have N:(⟨b,off,none⟩:Addr).add j=⟨b,off+j,none⟩:=gQ;rw[N]; exact this
  obtain⟨o,w',a,K,Q,_,J⟩:=run_append_own_at (P:=P) w base t ty e i z size bytes s hi S k q C E v n xs y ad m c x H d L p f l;exact⟨o,w',a,K,Q,J⟩
def iX (F:App P t e size bytes) {o:Oper} {a:Act} {K:aO} {Q:aB} (s x:d5)
 (E:o.op=.call {callee:=.builtin .append,args:=#[s,x],argTypes:=#[t,t]})
 (base:Nat) (v:d0) (n:Nat) (xs:bi) (r:a.eval s=v) (f:w.ownsRow base e size v n xs)
 (B:Nat) (A:ce) (m c:Nat) (y:bi) (l:a.eval x=.slice A m c) (C:y.length=m*size) (q:Rd w B A y) (p:∀u∈y,u.oneCell'=true)
 (i:n+m<=maxLen) (z:(n+m)*bytes<=140737488355328) (b:base<=w.heap.size)
 (h:∀d w',w'.ownsRow base e size d (n+m) (xs++y)->w.grownBy w' v.ownBlock->(d.ownBlock=v.ownBlock\/d.ownBlock=some w.heap.size)->K (a.put o.dst d) w'):o.wp P a w K Q:=by
 obtain⟨d,w',g,k,D,j⟩:=dj F o.type base v n xs f B A m c y C q p i z b;unfold Oper.wp execOp;simp only[E,resolve,invoke,builtin,qC,qD,qE,qF,qG,qH,r,l,g];exact h d w' k D j
def Pv (G:App P t e size bytes) {ops:bM} {rest:bv} {o:Oper} {a:Act} {Q:aB} (i:o.guard=none) (s x:d5)
 (F:o.op=.call {callee:=.builtin .append,args:=#[s,x],argTypes:=#[t,t]})
 (base:Nat) (v:d0) (n:Nat) (xs:bi) (C:a.eval s=v) (f:w.ownsRow base e size v n xs)
 (B:Nat) (A:ce) (m c:Nat) (y:bi) (l:a.eval x=.slice A m c) (D:y.length=m*size) (q:Rd w B A y) (p:∀u∈y,u.oneCell'=true)
 (g:n+m<=maxLen) (z:(n+m)*bytes<=140737488355328) (b:base<=w.heap.size)
 (h:∀d w',w'.ownsRow base e size d (n+m) (xs++y)->w.grownBy w' v.ownBlock->(d.ownBlock=v.ownBlock\/d.ownBlock=some w.heap.size)->wpList P ops Q rest (a.put o.dst d) w'):wpList P ops Q (o::rest) a w :=
 wpList_plain i λ_ r=>iX G s x F base v n xs C f B A m c y l D q p g z b λd w' k E j=>r _ _<|h d w' k E j
def Xht (E:App P t e size bytes) {us:cb} {ops:bM} {rest:bv} {o:Oper} {a:Act} {Q:aB} (g:o.guard=none) (s x:d5)
 (D:o.op=.call {callee:=.builtin .append,args:=#[s,x],argTypes:=#[t,t]})
 (base:Nat) (v:d0) (n:Nat) (xs:bi) (B:a.eval s=v) (b:w.ownsRow base e size v n xs) (p:a.eval x=.slice (some ⟨w.heap.size,0,none⟩) 1 1) (r:us.size=size) (q:∀u∈us.toList,u.oneCell'=true)
 (d:n+1<=maxLen) (y:(n+1)*bytes<=140737488355328) (i:base<=w.heap.size)
 (h:∀z w',w'.ownsRow base e size z (n+1) (xs++us.toList)->w.grownBy w' v.ownBlock->(z.ownBlock=v.ownBlock\/z.ownBlock=some (w.heap.size+1))->wpList P ops Q rest (a.put o.dst z) w'):wpList P ops Q (o::rest) a (w.alloc<|.cells us e):=by
 refine Pv E g s x D base v n xs B (b.alloc _) (w.heap.size+1) _ 1 1 us.toList p (by simp[r]) ?_ q d y uj ?_
 .intro _;refine⟨w.heap.size,0,rfl,J,λj u hj=>?_⟩;have C:(w.alloc<|.cells us e).heap[w.heap.size]?=some (.cells us e):=qJ w _;unfold World.cell?;simp only[C,qK];simpa using hj
 intro z w' m c l;refine h z w' m ⟨c.os,c.tape,c.output,qM j c.size,λk A f=>?_⟩ ?_
 .rw[c.block k uj f,Below.heap_alloc w _ k A]
 rcases l with h|h
 .exact .inl h
 right; rw[h]; simp
end
def Rd.Xly {e:Nat} (h:w.ownsRow base e size v n xs):∃A c,v=.slice A n c/\n<=c/\c<=maxLen/\Rd w w.heap.size A xs/\(∀b,A.map (·.block)=some b->base<=b):=by
 rcases h.2 with⟨rfl,rfl⟩|⟨g,cap,i,rfl,d,a,y,hm,l,z⟩
 .have z:xs=[]:=pR (by simpa using h.1);subst z;exact⟨none,0,rfl,qb _,qc _,Rd.nil,λb d=>by simp at d⟩
 refine⟨some ⟨g,0,none⟩,cap,rfl,y,hm,λ_=>?_,λb x=>by simp at x; omega⟩
 have f:g<w.heap.size:=by
  rcases pG g w.heap.size with h|h
  .exact h
  rw[qN h] at a; cases a
 refine⟨g,0,rfl,f,λj u hj=>?_⟩;have:=h.cells (g:=g) rfl j u hj;have k:(⟨g,0,none⟩:Addr).add j=⟨g,0+j,none⟩:=gQ;rw[<-k]; exact this
def XaP (k:d6) (zs:bf):∀u∈zs.map (Value.int k),u.oneCell'=true:=ints_oneCell k zs
def Xf4 (zs:bo):∀u∈zs.map Value.bool,u.oneCell'=true:=by
 intro u h; obtain⟨b,_,rfl⟩:=qj.1 h; rfl
def dq (k:d6) (z:Int):∀u∈(#[Value.int k z]:cb).toList,u.oneCell'=true:=by
 intro u h; simp at h; subst h; rfl
def Lk {a:d7} (h:Below B a w) (n:Nat):Below B a (w.drewN n):=⟨h.os,h.tape,h.output,h.size,h.block⟩
def Xhu {base' e:Nat} (h:w.ownsRow base e size v n xs) (b:base'<=base):w.ownsRow base' e size v n xs:=by
 obtain⟨a,y⟩:=h;refine⟨a,?_⟩;rcases y with y|⟨g,cap,x,z,c,r⟩
 .exact .inl y
 exact .inr ⟨g,cap,x,z,J,r⟩
def Q6 {a b:Bool} (h:a=b):Ending.returned (.bool a)=.returned (.bool b):=by rw[h]
def US (n:Int) (w:d7) (h:1<=n) (x:n<=8):Calls Tryz.prog 298 #[aa n] w λe w'=>e=.returned (.bool true)/\w=w':=by
 go_enter Tryz.func298,Tryz.ntmps298
 go_wp2
 go_ret
 exact⟨rfl,rfl⟩
def du (B:Nat) (A:ce) (c:Nat) (zs:bf) (at_ k:Nat) (w:d7) (x:Rd w B A<|zs.map<|.int .u8) (d:∀z∈zs,0<=z/\z<256) (q:zs.length<=65536) (p:1<=k) (o:k<=8) (m:at_+k<=zs.length) :
 Calls Tryz.prog 300 #[.slice A zs.length c,aa at_,aa k] w λe w'=>e=.returned (.tuple #[am<|num<|(zs.drop at_).take k,.bool true])/\w=w':=by
 obtain⟨b,off,rfl,r,l⟩:=x<|by intro e; simp at e; subst e; simp at m; omega
 have hd:decide ((zs.length:Int)-k<at_)=false:=uj;have g:=qO d;have HC:=qO l;clear d l x
 go_enter Tryz.func300,Tryz.ntmps300
 go_wp2_with (go_at_call 298; refine (US _ _ J J).mono ?_; rintro e w' ⟨rfl,rfl⟩)
 go_loop [8,9] (λn i=>∃j:Nat,j<=k/\i=aa ((j:Int)-1)/\n=am (num<|(zs.drop<|at_+j).take<|k-j)) (λ_ i=>(intOf i+1).toNat)
 case atStart=>exact⟨k,qb _,rfl,by simp[num]⟩
 case round =>
  obtain⟨j,hj,rfl,rfl⟩:=hrel;by_cases h0:j=0
  .subst h0
   go_wp2
   go_ret2
   exact⟨A3,rfl⟩
  obtain⟨i,rfl⟩:∃i,j=i+1:=⟨j-1,J⟩
  have y:=HC.out (at_+i) (ab<|zs[at_+i]?.getD 0)<|by rw[qq,pE J]; rfl
  have a:=qO<|Q2 zs (at_+i) (k-(i+1)) J;have f:=Q3 zs (at_+i+1) (k-(i+1)) g.out J;have h:=XiI g.out<|at_+i
  go_wp2
  refine⟨⟨i,J,rfl,?_⟩,by simp[intOf]⟩;rw[show at_+(i+1)=at_+i+1 from by omega,dg _ _ f.1 f.2 h.1 h.2,<-a.out,show k-(i+1)+1=k-i from by omega]
def ic:App Tryz.prog 23 5 1 1:=Xcj (z:=ab 0) Tryz.underlying23 A6 rfl K
def Out (B:Nat) (w:d7) (e:d4) (n:Nat) (xs:bi) (en:Ending) (w':d7):Prop:=∃v,en=.returned v/\w'.ownsRow B e 1 v n xs/\Below w.heap.size w w'
def Xli (n:Int) (j:Nat):n/256^j/256=n/256^(j+1):=by
 rw[Int.pow_succ,pq<|qP<|Int.pow_pos K]
def dv {j:Nat} {n:Int} {wr w1:d7} {v:d0} (x:B<=wr.heap.size) (z:Below B w wr) (h:wr.ownsRow B 5 1 u (zs.length+j)<|(zs++le n j).map<|.int .u8)
 (b:w1.ownsRow B 5 1 v (zs.length+j+1)<|(zs++le n j).map (.int .u8)++#[ab<|n/256^j%256].toList) (a:wr.grownBy w1 u.ownBlock) :
 w1.ownsRow B 5 1 v (zs.length+(j+1)) ((zs++le n (j+1)).map<|.int .u8)/\Below B w w1:=by
 refine⟨?_,z.grown a x<|λk y=>(h.lt k y).1⟩;rw[Xbn,<-qQ,qR,<-qS];exact b
def XiM (B:Nat) (A:ce) (c:Nat) (zs:bf) (n:Int) (k:Nat) (w:d7) (l:Rd w B A<|zs.map<|.int .u8) (E:zs.length<=65536) (C:1<=k) (t:k<=8) (r:0<=n) :
 Calls Tryz.prog 274 #[.slice A zs.length c,am n,aa k] w (Out w.heap.size w 5 (zs.length+k)<|(zs++le n k).map<|.int .u8):=by
 go_enter Tryz.func274,Tryz.ntmps274
 go_wp2_with (first
  |(at_builtin; refine Pv ic rfl _ _ rfl w.heap.size (.slice none 0 0) 0 [] rfl (World.ownsRow_nil _ _ _ _) B A zs.length c _ rfl A3 l (XaP _ _) (by unfold maxLen; omega) J (qb _) ?_; intro s w1 h b z)
  |(go_at_call 298; refine (US _ _ J J).mono ?_; rintro e w' ⟨rfl,rfl⟩))
 have d:Below w.heap.size w w1:=(qT _ _).grown b (qb _)<|λk p=>by simp[Value.ownBlock] at p
 simp only[qK,qU] at h;clear b z l
 go_loopw [1,7,15] (λm v i wr=>∃j:Nat,j<=k/\i=aa j/\m=am (n/256^j)/\wr.ownsRow w.heap.size 5 1 v (zs.length+j) ((zs++le n j).map<|.int .u8)/\Below w.heap.size w wr) (λ_ _ i _=>k-(intOf i).toNat)
 case atStart=>exact⟨0,qc _,rfl,A3,by simpa [le] using h,d⟩
 case round =>
  obtain⟨j,hj,rfl,rfl,x,o⟩:=hrel;clear h d;by_cases hlt:j<k
  .have q:=qO (Xli n j);have u:0<=n/256^j:=Int.ediv_nonneg r<|qP<|Int.pow_pos K;have f:=o.size
   go_wp2_with (first|(at_builtin; go_must (refine Xht ic rfl _ _ rfl w.heap.size _ (zs.length+j) _ rfl x rfl rfl (dq _ _) (by unfold maxLen; omega) J f ?_); intro F D y g a))
   have R:=dv (w:=w) f o x y g;clear y g a x o
   go_wp2
   go_roundw
   case rel=>exact⟨j+1,J,by go_num,by rw[q.out],R.1,R.2⟩
   case measure=>simp[intOf]; omega
  have:j=k:=by omega
  subst this
  go_wp2
  go_ret
  exact⟨_,rfl,x,o⟩
def FJ:d0->Lit
 |.int k n=>.int k n
 |.bool b=>.bool b
 |.string s=>.string s.data.toList
 |_=>.bool false
def Sc.XkQ {k:Sc} (a:k.ok u) (x:k.ok v) (h:FJ u=FJ v):u=v:=by
 cases k with
 |i k=>obtain⟨z,rfl,_⟩:=a; obtain⟨y,rfl,_⟩:=x; simp only[FJ,Lit.int.injEq] at h; rw[h.2]
 |b=>obtain⟨z,rfl⟩:=a; obtain⟨y,rfl⟩:=x; simp only[FJ,Lit.bool.injEq] at h; rw[h]
 |s =>
  obtain⟨z,rfl,_⟩:=a;obtain⟨y,rfl,_⟩:=x;simp only[FJ,Lit.string.injEq] at h;obtain⟨⟨z⟩⟩:=z;obtain⟨⟨y⟩⟩:=y;simp only at h;rw[h]
def Kinds.XkR {ks:cB} {ys:bi} (y:Kinds ks xs) (x:Kinds ks ys) (h:xs.map FJ=ys.map FJ):xs=ys:=by
 apply qA;intro i;by_cases hi:i<ks.length
 .have z:i<xs.length:=by rw[y.1]; exact hi
  have a:i<ys.length:=by rw[x.1]; exact hi
  rw[pE z,pE a];congr 1;refine Sc.XkQ (y.2 i ks[i] _ (pE hi)<|pE z) (x.2 i ks[i] _ (pE hi)<|pE a) ?_;have:=congrArg (λl=>l[i]?) h;simpa [pE z,pE a] using this
 rw[pH (by rw[y.1]; omega),pH<|by rw[x.1]; omega]
def Kinds.part {a b:cB} (h:Kinds (a++b) cs):Kinds a (cs.take a.length)/\Kinds b (cs.drop a.length):=by
 obtain⟨c,z⟩:=h;rw[pK] at c;refine⟨⟨Zl,λj k v y x=>?_⟩,⟨by rw[pJ]; omega,λj k v y x=>?_⟩⟩
 .have hj:=(qp.1 y).1;rw[pM,pN hj] at x;exact z j k v (by rw[pL hj]; exact y) x
 rw[pP] at x;exact z (a.length+j) k v (by rw[pO J]; rw[show a.length+j-a.length=j from by omega]; exact y) x
section
variable {P:d8}
def Ts {k:Sc} (h:Kinds [k] cs):∃v,cs=[v]/\k.ok v:=by
 match cs,h.1 with
 |[v],_=>exact⟨v,rfl,h.2 0 k v rfl rfl⟩
def Mq (fl:d4->Option (cB)) (fs:List Field):∀(x l:cB),CO P fl fs x=some l->∃b,l=x++b:=by
 induction fs with
 |nil=>intro x l h; simp only[CO,Option.some.injEq] at h; exact⟨[],by simp[h]⟩
 |cons g gs ih =>
  intro x l h;simp only[CO] at h;cases hg:fl g.type with
  |none=>rw[hg] at h; simp at h
  |some l2 =>
   rw[hg] at h;simp only at h;by_cases hc2:g.offset=x.length/\P.cellsOf g.type=l2.length
   .rw[pN hc2] at h;obtain⟨b,y⟩:=ih (x++l2) l h;exact⟨l2++b,by rw[y]; simp[qQ]⟩
   rw[pQ hc2] at h; simp at h
def XeE (n D:Nat) (e:∀(t:d4) (l:cB),flat P n t=some l->P.keyTypeAt n t=true->∀cs,Kinds l cs->P.keyLits D t cs=some (cs.map FJ))
 (cs:bi) (fs:List Field):∀(x l:cB),CO P (flat P n) fs x=some l->(∀f∈fs,P.keyTypeAt n f.type=true)->Kinds l (cs.take l.length) ->
 ∃y:List<|List Lit,fs.mapM (λf=>P.keyLits D f.type<|(cs.drop f.offset).take<|P.cellsOf f.type)=some y/\y.flatten=((cs.take l.length).drop x.length).map FJ/\x.length<=l.length:=by
 induction fs with
 |nil =>
  intro x l h _ _;simp only[CO,Option.some.injEq] at h;subst h;exact⟨[],rfl,A3,qb _⟩
 |cons f fs IH =>
  intro x l h d a;simp only[CO] at h;cases hfl:flat P n f.type with
  |none=>rw[hfl] at h; simp at h
  |some l1 =>
   rw[hfl] at h;simp only at h;by_cases hc:f.offset=x.length/\P.cellsOf f.type=l1.length
   .rw[pN hc] at h;obtain⟨y,i,c,k⟩:=IH (x++l1) l h (λg m=>d g<|by simp[m]) a;rw[pK] at c k
    have z:Kinds l1 ((cs.drop x.length).take l1.length):=by
     obtain⟨b,rfl⟩:=Mq (P:=P) (flat P n) fs (x++l1) l h;have:=(a.part).1;have:=(this.part).2;rw[List.take_take,List.drop_take,pK] at this;rw[show min (x.length+l1.length) ((x++l1++b).length)-x.length=l1.length from by simp] at this;exact this
    have j:=e f.type l1 hfl (d f A3) _ z;refine⟨(((cs.drop x.length).take l1.length).map FJ)::y,?_,?_,J⟩
    .rw[List.mapM_cons,hc.1,hc.2,j,i]; rfl
    rw[pT,c,<-qR];congr 1;rw[show (cs.take l.length).drop (x.length+l1.length)=(((cs.take l.length).drop x.length).drop l1.length) from by rw[pX]];rw[show (cs.drop x.length).take l1.length=((cs.take l.length).drop x.length).take l1.length from by rw[List.drop_take,List.take_take]; congr 1; omega];exact qV _ _
   rw[pQ hc] at h; simp at h
def Tu {D:Nat} {l1:cB} (y:P.cellsOf e=l1.length) (b:∀cs,Kinds l1 cs->P.keyLits D e cs=some (cs.map FJ)) (m:Nat):∀(k:Nat) (cs:bi),Kinds (List.replicate m l1).flatten (cs.drop<|k*l1.length) ->
 ∃x:List<|List Lit,(List.range' k m).mapM (λi=>P.keyLits D e<|(cs.drop<|i*P.cellsOf e).take<|P.cellsOf e)=some x/\x.flatten=(cs.drop<|k*l1.length).map FJ:=by
 induction m with
 |zero =>
  intro k cs h;have:cs.drop (k*l1.length)=[]:=pR<|by simpa using h.1
  exact⟨[],rfl,by rw[this]; rfl⟩
 |succ m IH =>
  intro k cs h;rw[pS,pT] at h;obtain⟨d,z⟩:=h.part;rw[pX,show k*l1.length+l1.length=(k+1)*l1.length from by rw[pW]; omega] at z;obtain⟨x,a,f⟩:=IH (k+1) cs z;have c:=b _ d;refine⟨((cs.drop<|k*l1.length).take l1.length).map FJ::x,?_,?_⟩
  .rw[List.range'_succ,List.mapM_cons,y,c];rw[y] at a;rw[a]; rfl
  rw[pT,f,<-qR];congr 1;rw[show (k+1)*l1.length=k*l1.length+l1.length from by rw[pW]; omega,<-pX];exact qV _ _
def Xar (n:Nat):∀(t:d4) (l:cB),flat P n t=some l->P.keyTypeAt n t=true->∀cs,Kinds l cs->P.keyLits n t cs=some (cs.map FJ):=by
 induction n with
 |zero=>intro t l h; simp[flat] at h
 |succ n ih =>
  intro t l h d cs y;unfold flat at h;unfold Program.keyLits;unfold Program.keyTypeAt at d;split at h
  .rename_i hu;simp only[Option.some.injEq] at h;subst h;obtain⟨v,rfl,b,rfl⟩:=Ts y;rw[hu]; rfl
  .rename_i k hu;exact ZA0
  .rename_i hu;exact ZA0
  .rename_i fs hu;rw[hu] at d;simp only at d;cases hff:CO P (flat P n) fs.toList [] with
   |none=>rw[hff] at h; simp at h
   |some l1 =>
    rw[hff] at h;simp only at h;by_cases hc:P.cellsOf t=l1.length
    .rw[pN hc] at h;simp only[Option.some.injEq] at h;subst h;simp only[qW,Array.all_eq_true',bne_iff_ne,ne_eq] at d;obtain⟨⟨g,_⟩,_⟩:=d;have q:∀f∈fs.toList,P.keyTypeAt n f.type=true:=λf r=>(g f<|by simpa using r).2
     have c:cs.take l1.length=cs:=pZ<|by rw[y.1]; exact qb _
     obtain⟨j,p,o,_⟩:=XeE n n ih cs fs.toList [] l1 hff q<|by rw[c]; exact y
     have a:fs.all (λx=>x.name != "_")=true:=by
      rw[Array.all_eq_true'];intro f r;simpa using (g f r).1
     rw[hu];simp only[hc,y.1,a,and_self,qX,p,qv];rw[o,c];rfl
    rw[pQ hc] at h; simp at h
  .rename_i m e hu;rw[hu] at d;simp only at d;cases hfe:flat P n e with
   |none=>rw[hfe] at h; simp at h
   |some l1 =>
    rw[hfe] at h;simp only at h;by_cases hc:P.cellsOf e=l1.length/\P.cellsOf t=m*l1.length/\0<l1.length
    .rw[pN hc] at h;simp only[Option.some.injEq] at h;subst h;obtain⟨j,p,o⟩:=Tu hc.1 (ih e l1 hfe d) m 0 cs dQ;rw[hu];have i:cs.length=P.cellsOf t:=by rw[y.1,hc.2.1]; simp
     simp only[i,qX];rw[List.range_eq_range',p];simp only[qv,o];simp
    rw[pQ hc] at h; simp at h
  simp at h
def Ia {w:d7} {ks:cB} {xs ys:cb} (d:flat P n t=some ks) (y:P.keyTypeAt n t) (hd:n<=10000) (g:P.cellsOf t=ks.length)
 (a:(match P.underlying t with|some (.struct _)|some (.array _ _)=>true|_=>false)=true) (x:Kinds ks xs.toList) (z:Kinds ks ys.toList) :
 ∃r:Bool,(Op.equalIn 10000 t (.agg xs)<|.agg ys).run P w=.ok r w/\(r=true↔xs=ys):=by
 have H:=run_equalIn_deep (P:=P) (10000-n) n t y;rw[show 10000-n+n=10000 from by omega] at H
 have b:∀zs:cb,Kinds ks zs.toList->(Value.agg zs).formed P t=true:=by
  intro zs i;have c:zs.size=P.cellsOf t:=by rw[g,<-i.1]; simp
  unfold Value.formed;split at a
  .rename_i hu; simp[hu,c]
  .rename_i hu; simp[hu,c]
  simp at a
 obtain⟨r,f,e⟩:=H w n n (.agg xs) (.agg ys) _ _ (b xs x) (b ys z) (Xar n t ks d y _ x)<|Xar n t ks d y _ z;refine⟨r,f,e.trans ⟨λh=>?_,λh=>by rw[h]⟩⟩;have:=x.XkR z h;exact Array.ext' this
end
def XaQ (P:d8) (t:d4) (w:d7) (a:Addr):Result d0:=(loadVar t a).run P w
def UT (P:d8) (t:d4) (size:Nat) (w:d7) (a:Addr):Result d0 :=
 match w.heap[a.block]? with
 |some (.cells cs _ _)=>if a.off=0/\a.spot=none/\cs.size=size then .ok (.agg cs) w else XaQ P t w a
 |_=>XaQ P t w a
def Xel {P:d8} {t:d4} {d:TypeDesc} {size:Nat} (c:P.underlying t=some d) (hd:(match d with|.struct _|.array _ _=>true|_=>false)=true) (hi:(P.info? t).map (·.size)=some size) (w:d7) (a:Addr) :
 (loadVar t a).run P w=UT P t size w a:=by
 unfold UT;split
 .rename_i cs e fr h;split
  .rename_i hc;obtain⟨b,off,spot⟩:=a;obtain⟨x,y,z⟩:=hc;simp only at x y;subst x y;exact run_loadVar_row w b e t cs fr d h c hd<|by rw[z]; exact hi
  rfl
 rfl
def Px (P:d8) (t:d4) (size:Nat) (w:d7):d0->Result Next
 |.pointer (some a)=>(UT P t size w a).andThen λv w'=>.ok (.value v) w'
 |v=>(Instr.loadAt t v).run P w |>.andThen λv w'=>.ok (.value v) w'
def Mr {P:d8} {t:d4} {d:TypeDesc} {size:Nat} (h:P.underlying t=some d) (hd:(match d with|.struct _|.array _ _=>true|_=>false)=true) (hi:(P.info? t).map (·.size)=some size) (w:d7)
 (ρ:d5->d0) (o:Oper) (x:d5) (y:o.op=.load t x):(execOp ρ o).run P w=Px P t size w (ρ x):=by
 have e:(execOp ρ o).run P w=((Instr.loadAt t<|ρ x).run P w).andThen λv w'=>.ok (.value v) w':=by
  simp only[execOp,y,qC,qD]
 rw[e];generalize ρ x=v;unfold Px;split
 .simp only[Instr.loadAt,Instr.sureAddr,qC,qD,qE,Xel h hd hi]
 rfl
def val (n:Int) (bs:bf):cb:=(aa n::bs.map (Value.int .u8)).toArray
def pad (zs:bf) (n:Nat):bf:=zs++List.replicate (n-zs.length) 0
def F2 (zs:bf) (n:Nat) (h:zs.length<=n):(pad zs n).length=n:=by simp[pad]; omega
def GV (n:Int) (bs:bf) (h:bs.length=16):(val n bs).size=17:=by simp[val,h]
def L3 (n:Int) (bs:bf):∀u∈(val n bs).toList,u.oneCell'=true:=by
 intro u h;simp only[val,pj,qj] at h;rcases h with rfl|⟨z,_,rfl⟩<;>rfl
def F3:(Tryz.prog.info? 56).map (·.size)=some 17:=by kernel_rfl
def XkN:(Tryz.prog.info? 5).map (·.size)=some 1:=by kernel_rfl
def EM (w:d7) (v:d0) (e:Ending) (w':d7):Prop:=e=.returned v/\Below w.heap.size w w'
def Xfm (zs:bf) (n:Int) (h:zs.length<=16):(splice ((aa n)::List.replicate 16 (ab 0)) 1<|zs.map<|Value.int .u8).toArray=val n (pad zs 16):=by
 unfold splice val pad;congr 1;simp only[pD,List.take_zero,qY,pt,qU,qR,qZ];rw[show 1+zs.length=zs.length+1 from by omega,ra,List.drop_replicate]
def dx (zs:bf) (n:Nat) (h:zs.length<=n):(zs.map<|Value.int .u8).length=Nat.min zs.length n:=by rw[qY]; exact (re h).symm
def dy {A:ce} (h:Rd w B A xs):0<xs.length->∃ad,A=some ad/\∀j v,xs[j]?=some v->w.cell? (ad.add j)=some v:=by
 intro z;obtain⟨b,off,rfl,_,y⟩:=h<|by intro e; subst e; simp at z
 refine⟨_,rfl,λj v hj=>?_⟩;have x:(⟨b,off,none⟩:Addr).add j=⟨b,off+j,none⟩:=gQ;rw[x]; exact y j v hj
def L4 {cs:cb} (h:∀u∈cs.toList,u.oneCell'=true):cs.all (·.oneCell')=true:=by
 rw[Array.all_eq_true_iff_forall_mem]; exact λv x=>h v Zm
set_option maxHeartbeats 400000 in
def Tw (B:Nat) (A:ce) (c:Nat) (zs:bf) (w:d7) (y:Rd w B A<|zs.map<|.int .u8) (b:B<=w.heap.size) (a:zs.length<=16) :
 Calls Tryz.prog 187 #[.slice A zs.length c] w (EM w<|.agg<|val zs.length<|pad zs 16):=by
 have e:=qO y;have HS:=qO<|Xfm zs zs.length a;have x:=qO<|GV zs.length (pad zs 16)<|F2 zs 16 a;clear y
 go_enter Tryz.func187,Tryz.ntmps187
 go_wp2_with (first
  |(refine wpList_copy_splice rfl (.tmp 8) (.tmp 9) 23 23 rfl 5 Tryz.underlying23 XkN _ _ 16 16 zs.length c rfl rfl (w.heap.size+1) 1 (aa zs.length::List.replicate 16 (ab 0)) 56 (heap_alloc2_new w _ _) (zs.map<|Value.int .u8) (dx zs 16 a) (λh=>⟨rfl,dy ((e.out.alloc b _).alloc (qM b j) _) h⟩) uj (XaP _ _) (w.heap.size+1) _ (qT _ _) (qb _) ?_; intro g d z; rw[HS.out] at d)
  |(refine wpList_load_row rfl 56 (.tmp 3) rfl (w.heap.size+1) rfl 56 _ (0,0) _ d.out Tryz.underlying56 rfl vC ?_)
  |(refine rf rfl 56 (.tmp 2) (.tmp 11) rfl w.heap.size _ rfl rfl 56 _ ((z.block w.heap.size J).trans<|heap_alloc2_old w _ _) vC (by rw[x.out]; rfl) (L4<|L3 _ _) ?_))
 have f:=(z.block w.heap.size J).trans<|heap_alloc2_old w _ _;refine rh (results_cell_row rfl _ _ w.heap.size 56 _ (0,0) _ rfl (setRow_heap _ _ _ _ _ _ f) Tryz.underlying56 rfl vC) rfl ⟨rfl,?_⟩;exact ri ((((qT _ _).alloc (qb _) _).alloc j _).trans<|z.mono j) (qb _) _
def UU (n:Int) (bs:bf):(val n bs)[0]?=some (aa n):=by simp[val]
set_option maxHeartbeats 400000 in
def Xhv (n:Int) (bs:bf) (w:d7) (h:n<0) :
 Calls Tryz.prog 316 #[.agg<|val n bs] w (EM w<|.bool false):=by
 have x:=UU n bs;have hd:decide (0<=n)=false:=uj;exact Xd8
set_option maxHeartbeats 400000 in
def Xhw (n:Int) (bs:bf) (w:d7) (x:0<=n) (h:16<n) :
 Calls Tryz.prog 316 #[.agg<|val n bs] w (EM w<|.bool false):=by
 have y:=UU n bs;have hd:decide (n<=16)=false:=uj;exact Xd8
def Rd.Xdz {n:Int} (k:Nat) (h:W.heap[g]?=some (.cells (val n bs) t (0,0))):Rd W (g+1) (some ⟨g,1,none⟩) ((bs.take k).map<|.int .u8):=by
 intro _;refine⟨g,1,rfl,J,λj u x=>?_⟩;rw[cell_of_row W g (1+j) _ t (0,0) h];rw[qq,pM] at x;split at x
 .simp only[val,rj,rp 1 j,rr,qq];exact x
 simp at x
def dz {n:Int} (k c:Nat) (y:k<=16) (z:bs.length=16) (a:g<W.heap.size) (h:W.heap[g]?=some (.cells (val n bs) t (0,0))) :
 Calls Tryz.prog 187 #[.slice (some ⟨g,1,none⟩) k c] W (EM W<|.agg<|val k<|pad (bs.take k) 16):=by
 have x:(bs.take k).length=k:=Zl;have C:=Tw (g+1) (some ⟨g,1,none⟩) c (bs.take k) W (Rd.Xdz k h) J J;rw[x] at C;exact C
def Xjz (w:d7) (ρ:d5->d0) (d:Option Tmp) (x:d5) (ty:d4) (pos:String) (h:Array Edge) (y:Option<|Nat×Bool) :
 (execOp ρ {dst:=d,op:=.load 56 x,type:=ty,pos:=pos,after:=h,guard:=y}).run Tryz.prog w=Px Tryz.prog 56 17 w (ρ x):=Mr Tryz.underlying56 rfl F3 w ρ _ x rfl
attribute [local go_sem ↓] Xjz
attribute [local go_sem] UT Px
def Xas (n:Int) (bs:bf) (a:(Lit.int .i64 n).wf) (c:bs.length=16) (y:∀b∈bs,(Lit.int .u8 b).wf=true):Kinds (Sc.i .i64::List.replicate 16 (Sc.i .u8)) (val n bs).toList:=by
 refine⟨by simp[val,c],λj k v h x=>?_⟩;cases j with
 |zero=>simp[val] at h x; subst h x; exact⟨n,rfl,a⟩
 |succ j =>
  simp only[rr,ru] at h;split at h
  .simp only[Option.some.injEq] at h;subst h;simp only[val,rr,qq,rv] at x;obtain⟨z,d,rfl⟩:=x;exact⟨z,rfl,y z<|ry d⟩
  simp at h
def XeF (cs:bf):∀bs:bf,cs.map (Value.int .u8)=bs.map (Value.int .u8)->cs=bs:=by
 induction cs with
 |nil=>intro bs h; cases bs with
  |nil=>rfl
  |cons b bs=>simp at h
 |cons a cs ih=>intro bs h; cases bs with
  |nil=>simp at h
  |cons b bs =>
   simp only[qG,List.cons.injEq,Value.int.injEq,true_and] at h;rw[h.1,ih bs h.2]
def Xio {n m:Int} {cs:bf} (h:val n cs=val m bs):n=m/\cs=bs:=by
 unfold val at h;have h:=congrArg Array.toList h;simp only[List.cons.injEq,Value.int.injEq,true_and] at h;exact⟨h.1,XeF cs bs h.2⟩
set_option maxRecDepth 100000 in
/-- Two values,held against each other. -/
def XjA (n m:Int) (cs bs:bf) (z:(Lit.int .i64 n).wf) (hm:(Lit.int .i64 m).wf) (d:cs.length=16) (c:bs.length=16) (y:∀b∈cs,(Lit.int .u8 b).wf=true) (x:∀b∈bs,(Lit.int .u8 b).wf=true) (W:d7) :
 (Op.equalIn 10000 56 (.agg<|val n cs)<|.agg<|val m bs).run Tryz.prog W=.ok (decide (n=m/\cs=bs)) W:=by
 obtain⟨r,a,e⟩:=Ia (P:=Tryz.prog) (w:=W) (n:=3) (t:=56) A6 A6 K A6 A6 (Xas n cs z d y)<|Xas m bs hm c x;rw[a];congr 1;rw[rz,e];simp only[rA];exact⟨λh=>Xio h,λh=>by rw[h.1,h.2]⟩
def wf_u8 {z:Int} (x:0<=z) (h:z<256):(Lit.int .u8 z).wf=true:=by simp[Lit.wf,IntKind.min,IntKind.max,IntKind.signed,IntKind.bits]; omega
def Ra {k:Nat} (h:k<=16):(Lit.int .i64 (k:Int)).wf=true:=by simp[Lit.wf,IntKind.min,IntKind.max,IntKind.signed,IntKind.bits]; omega
def Tx (n:Nat) (h:∀b∈zs,(Lit.int .u8 b).wf=true):∀b∈pad zs n,(Lit.int .u8 b).wf=true:=by
 intro b x;rcases rB.1 x with x|x
 .exact h b x
 rw[(rC.1 x).2]; decide
set_option maxHeartbeats 400000 in
def Xf5 (k:Nat) (bs:bf) (w:d7) (h:k<=16) (d:bs.length=16) (o:∀b∈bs,(Lit.int .u8 b).wf=true) :
 Calls Tryz.prog 316 #[.agg<|val k bs] w (EM w<|.bool<|decide (pad (bs.take k) 16=bs)):=by
 have u:=UU k bs;have A:(k:Int)<=16:=J;have f:=XjA k k (pad (bs.take k) 16) bs (Ra h) (Ra h) (F2 _ _ uj) d (Tx 16<|λb d=>o b<|pF d) o;simp only[true_and] at f;obtain⟨r,q⟩:∃r,decide (pad (bs.take k) 16=bs)=r:=⟨_,rfl⟩
 rw[q] at f ⊢;clear q;have v:=GV k bs d
 go_enter Tryz.func316,Tryz.ntmps316
 go_wp2
 obtain⟨x,y⟩:∃x,x=w.alloc (Obj.cells (val k bs) 56):=⟨_,rfl⟩
 have i:=qJ w<|Obj.cells (val k bs) 56;have a:w.heap.size<x.heap.size:=by rw[y]; simp
 rw[<-y] at i ⊢;have s:x.cell? ⟨w.heap.size,0,none⟩=some (aa k):=by rw[cell_of_row x _ 0 _ _ _ i]; exact u
 have c:Hid (Below w.heap.size w x):=qO<|by rw[y]; exact (qT _ _).alloc (qb _) _
 clear y
 go_region_held3 (λW=>W.cell? ⟨w.heap.size,0,none⟩=some (aa k)/\W.heap[w.heap.size]?=some (.cells (val k bs) 56 (0,0))/\Below x.heap.size x W) (first|exact⟨l,m,z⟩|exact⟨s,i,(qT _ _).drew⟩)
  (first|(go_at_call 187; refine (dz (W:=x.drew) (g:=w.heap.size) (t:=56) (n:=k) (bs:=bs) k _ h d a i).mono ?_; rintro e w2 ⟨rfl,j⟩; have z:Below x.heap.size x w2:=(qT _ _).drew.trans j; have m:=(z.block w.heap.size a).trans i; have l:=(z.cell (p:=⟨w.heap.size,0,none⟩) a).trans s))
 go_wp2
 go_ret
 exact⟨rfl,c.out.trans<|z.mono c.out.size⟩
open Go.RowKit Go.ChangeShapes Go.ChangeAt Go.WideShapes
def Ds (n:Int) (bs:bf):Bool:=decide (0<=n/\n<=16/\pad (bs.take n.toNat) 16=bs)
def Xf6 (n:Int) (bs:bf) (w:d7) (y:bs.length=16) (x:∀b∈bs,(Lit.int .u8 b).wf=true) :
 Calls Tryz.prog 316 #[.agg<|val n bs] w (EM w<|.bool<|Ds n bs):=by
 by_cases h0:n<0
 .rw[show Ds n bs=false from by simp[Ds]; omega];exact Xhv n bs w h0
 by_cases h1:16<n
 .rw[show Ds n bs=false from by simp[Ds]; omega];exact Xhw n bs w J h1
 obtain⟨k,rfl⟩:=pB (show 0<=n by omega)
 rw[show Ds k bs=decide (pad (bs.take k) 16=bs) from by
  unfold Ds;rw[rz];simp only[rA,rD]
  exact⟨λh=>h.2.2,λh=>⟨J,J,h⟩⟩]
 exact Xf5 k bs w J y x
set_option maxHeartbeats 400000 in
def Ty (n:Int) (bs:bf) (w:d7) (c:bs.length=16) (a:∀b∈bs,(Lit.int .u8 b).wf=true) :
 Calls Tryz.prog 277 #[.agg<|val n bs] w (EM w<|am<|num<|bs.take 8):=by
 have y:=qJ w<|Obj.cells (val n bs) 56;have x:=Rd.Xdz 16 y;rw[pZ J] at x;have HN:=du (w.heap.size+1) _ 16 bs 0 8 _ x (λz h=>by have:=bounds_u8<|a z h; omega) J K K J;rw[pU,c] at HN;have H:=qO HN;clear HN y x
 go_enter Tryz.func277,Tryz.ntmps277
 go_wp2_with (go_at_call 300; refine H.out.mono ?_; rintro e d ⟨rfl,rfl⟩)
 go_ret
 exact nN
def GW (n:Int):bf:=pad (le n 8) 16
def Ib (n:Int):(GW n).length=16:=F2 _ _<|by rw[BE]; decide
set_option maxHeartbeats 400000 in
def Ys (n:Int) (w:d7) (k:0<=n) :
 Calls Tryz.prog 276 #[am n] w (EM w<|.agg<|val 8<|GW n):=by
 have HP:=λW=>XiM 0 none 0 [] n 8 W Rd.nil K K K k
 have H:=qO HP;have y:=qO<|GV 8 (GW n)<|Ib n;clear HP
 go_enter Tryz.func276,Tryz.ntmps276
 go_wp2_with fail
 refine (H.out _).mono ?_;rintro e c ⟨v,rfl,x,h⟩;rw[qU,show ([]:bf).length+8=(le n 8).length from by rw[BE]; rfl] at x;obtain⟨i,g,rfl,_,_,rd,_⟩:=Rd.Xly x;have b:=Tw _ i g (le n 8) c rd (qb _)<|by rw[BE]; decide
 have l:=qO<|(h.block w.heap.size A3).trans<|qJ w _;have HB:=qO<|((qT w.heap.size w).alloc (qb _) _).trans<|h.mono A3;have f:w.heap.size<c.heap.size:=by have:=h.size; simp at this; omega
 clear x rd h;rw[BE] at b;have b:Hid (Calls Tryz.prog 187 #[.slice i 8 g] c (EM c<|.agg<|val 8<|GW n)):=qO b
 go_wp2_with fail
 rw[BE];refine b.out.mono ?_;rintro e m ⟨rfl,z⟩;have j:=(z.block w.heap.size f).trans l.out;have d:=qO<|HB.out.trans<|z.mono HB.out.size;clear z;have a:=qO j;clear j
 go_wp2_with (refine rf rfl 56 (.tmp 2) (.tmp 5) rfl w.heap.size _ rfl rfl 56 _ a.out iK (by rw[y.out]; rfl) (L4<|L3 _ _) ?_)
 refine rh (results_cell_row rfl _ _ w.heap.size 56 _ (0,0) _ rfl (setRow_heap _ _ _ _ _ _ a.out) Tryz.underlying56 rfl iK) rfl ⟨rfl,?_⟩;exact ri d.out (qb _) _
set_option maxHeartbeats 400000 in
def Yt (n:Int) (bs:bf) (k:Int) (w:d7) (d:bs.length=16) (g:∀b∈bs,(Lit.int .u8 b).wf=true) :
 Calls Tryz.prog 223 #[.agg<|val n bs,am k] w (EM w<|.agg<|val 8<|GW<|IntKind.u64.wrap<|num (bs.take 8)+k):=by
 have HN:=qO<|λW=>Ty n bs W d g
 obtain⟨m,hm⟩:∃m,IntKind.u64.wrap (num (bs.take 8)+k)=m:=⟨_,rfl⟩
 have hm0:0<=m:=by rw[<-hm,pA]; omega
 have l:=qO<|λW=>Ys m W hm0
 have c:=qO<|GV n bs d;have h:=qO<|GV 8 (GW m)<|Ib m;rw[hm];have HM:=qO hm;have p:=qO<|λo=>(heap_alloc2_old w (Obj.cells (val n bs) 56) o)
 clear g d hm
 go_enter Tryz.func223,Tryz.ntmps223
 go_wp2_with (refine wpList_load_row rfl 56 (.tmp 2) rfl w.heap.size rfl 56 _ (0,0) _ (p.out _) Tryz.underlying56 rfl (by rw[c.out]; exact F3) ?_)
 refine (HN.out _).mono ?_;rintro e j ⟨rfl,x⟩;have f:w.heap.size+1<j.heap.size:=by have:=x.size; rw[rE,rE] at this; omega
 have i:=qO<|(x.block (w.heap.size+1) A3).trans<|heap_alloc2_new w _ _;have HB:=qO<|(((qT w.heap.size w).alloc (qb _) _).alloc A3 _).trans<|x.mono uj;have hm:=HM.out;clear x
 go_wp2_with fail
 refine (l.out _).mono ?_;rintro e q ⟨rfl,y⟩;have z:=qO<|(y.block (w.heap.size+1) f).trans i.out;have a:=qO<|HB.out.trans<|y.mono HB.out.size;clear y hm
 go_wp2_with (refine rf rfl 56 (.tmp 4) (.tmp 9) rfl (w.heap.size+1) _ rfl rfl 56 _ z.out (by rw[h.out]; exact F3) (by rw[h.out]; rfl) (L4<|L3 _ _) ?_)
 refine rh (results_cell_row rfl _ _ (w.heap.size+1) 56 _ (0,0) _ rfl (setRow_heap _ _ _ _ _ _ z.out) Tryz.underlying56 rfl (by rw[h.out]; exact F3)) rfl ⟨rfl,?_⟩;exact ri a.out J _
def Q5 (s:ByteArray):bf:=s.data.toList.map λb=>(b.toNat:Int)
def Ho (s:ByteArray):(Q5 s).length=s.size:=by unfold Q5; rw[qY,rF]; rfl
def Xck (s:ByteArray):∀b∈Q5 s,0<=b/\b<256:=by
 intro b h;obtain⟨c,_,rfl⟩:=qj.1 h;have:=c.toNat_lt;omega
def ja (s:ByteArray):∀b∈Q5 s,(Lit.int .u8 b).wf=true:=λb h=>wf_u8 (Xck s b h).1 (Xck s b h).2
def Rd.bytes (w:d7) (s:ByteArray) (cap:Nat) (fr:Nat×Nat):Rd (w.alloc<|.cells (bytesRow s cap) 5 fr) (w.heap.size+1) (some ⟨w.heap.size,0,none⟩) ((Q5 s).map<|.int .u8):=by
 intro _;refine⟨w.heap.size,0,rfl,J,λj u hj=>?_⟩;rw[World.cell?_alloc_mark,qK];simp only[Q5,rG,qq,rv,Function.comp] at hj;obtain⟨b,x,rfl⟩:=hj;have h:j<s.data.size:=by have:=(qp.1 x).1; simpa using this
 rw[bytesRow_at s cap j h]
 have:s.data[j]=b:=by
  have:=x;rw[pE sv] at this;simpa using this
 rw[this]
def H4 {P:d8} {fn:Func} {p u:Tmp} {ty:d4} (h:fn.results=#[.cell p ty,.tmp u]) (tmps:cb) (w:d7) (g:Nat) (t:d4) (cs:cb) (fr:Nat×Nat) (d:TypeDesc)
 (y:tmps.getD p undef=.pointer (some ⟨g,0,none⟩)) (a:w.heap[g]?=some (.cells cs t fr))
 (z:P.underlying ty=some d) (hd:(match d with|.struct _|.array _ _=>true|_=>false)=true) (hi:(P.info? ty).map (·.size)=some cs.size) :
 (results fn tmps).run P w=.ok (.tuple #[.agg cs,tmps.getD u undef]) w:=by
 have x:tmps[p]?.getD undef=.pointer (some ⟨g,0,none⟩):=dQ;simp[results,h,x,asAddr,run_loadVar_row w g t ty cs fr d a z hd hi]
def ZN:bf:=List.replicate 16 0
set_option maxHeartbeats 400000 in
def Xip (s:ByteArray) (w:d7) (h:16<s.size) :
 Calls Tryz.prog 126 #[.string s] w (EM w<|.tuple #[.agg<|val 0 ZN,aa 2]):=by
 have x:(16:Int)<(s.size:Int):=J;clear h
 go_enter Tryz.func126,Tryz.ntmps126
 go_wp2
 refine rh (H4 rfl _ _ w.heap.size 56 (val 0 ZN) (0,0) _ rfl (qJ w _) Tryz.underlying56 rfl A6) rfl ⟨rfl,?_⟩;exact (qT _ _).alloc (qb _) _
set_option maxHeartbeats 400000 in
def jb (s:ByteArray) (w:d7) (h:s.size<=16) :
 Calls Tryz.prog 126 #[.string s] w (EM w<|.tuple #[.agg<|val s.size<|pad (Q5 s) 16,aa 0]):=by
 have k:(s.size:Int)<=16:=J;have f:=λW=>run_bytes_of_string (P:=Tryz.prog) W 9 23 5 s Tryz.underlying9 Tryz.underlying23 Tryz.underlying5
 have y:=qO<|GV s.size (pad (Q5 s) 16)<|F2 _ _<|by rw[Ho]; exact h
 have a:∀(W:d7) (g c:Nat) (fr:Nat×Nat),g=W.heap.size->Calls Tryz.prog 187 #[.slice (some ⟨g,0,none⟩) s.size c] (World.drew<|W.alloc<|.cells (bytesRow s c) 5 fr) (EM (World.drew<|W.alloc<|.cells (bytesRow s c) 5 fr)<|.agg<|val s.size<|pad (Q5 s) 16)  :=λW g c fr i=>by
  subst i;have d:Rd (World.drew<|W.alloc<|.cells (bytesRow s c) 5 fr) (W.heap.size+1) (some ⟨W.heap.size,0,none⟩) ((Q5 s).map<|.int .u8):=(Rd.bytes W s c fr).keep<|λp _=>rfl
  have:=Tw (W.heap.size+1) (some ⟨W.heap.size,0,none⟩) c (Q5 s) _ d A3<|by rw[Ho]; exact h
  rw[Ho] at this;exact this
 have b:=qO a;clear a
 go_enter Tryz.func126,Tryz.ntmps126
 have HA:=qO<|qJ w
 go_wp2_with fail
 refine (b.out (w.alloc _) (w.heap.size+1) _ _ A3).mono ?_;rintro e j ⟨rfl,x⟩;have z:=qO<|(x.block w.heap.size uj).trans<|(Below.heap_alloc _ _ _ A3).trans<|HA.out _;have HB:=qO<|(((qT w.heap.size w).alloc (qb _) _).alloc A3 _).drew.trans<|x.mono uj;clear x f
 go_wp2_with (refine rf rfl 56 (.tmp 2) (.tmp 10) rfl w.heap.size _ rfl rfl 56 _ z.out iK (by rw[y.out]; rfl) (L4<|L3 _ _) ?_)
 refine rh (H4 rfl _ _ w.heap.size 56 _ (0,0) _ rfl (setRow_heap _ _ _ _ _ _ z.out) Tryz.underlying56 rfl iK) rfl ⟨rfl,?_⟩;exact ri HB.out (qb _) _
def dC (bs:bf) (k:Nat) (a:bs.length=16) (y:k<=16):pad (bs.take k) 16=bs↔∀i,k<=i->i<16->bs[i]?.getD 0=0:=by
 have x:(bs.take k).length=k:=Zl;unfold pad;rw[x];constructor
 .intro h i z b;rw[<-h,pO J,x,ru];split<;>rfl
 intro h;apply qA;intro i;by_cases hi:i<k
 .rw[pL J,pM,pN hi]
 rw[pO J,x,ru];by_cases h16:i<16
 .rw[pN J];have:=h i J h16;rw[pE J] at this ⊢;simpa using this.symm
 rw[pQ J,pH J]
def Mt (k:Nat) (bs:bf) (x:k<=16):Ds k bs=decide (pad (bs.take k) 16=bs):=by
 unfold Ds;rw[rz];simp only[rA,rD];exact⟨λh=>h.2.2,λh=>⟨J,J,h⟩⟩
def Xj1 (n:Int) (bs:bf) (j:Nat) (hj:j<bs.length):(val n bs)[1+j]?=some (ab<|bs[j]?.getD 0):=by
 simp only[val,rj,rp 1 j,rr,qq,pE hj];rfl
set_option maxHeartbeats 400000 in
def Xfn (n:Int) (bs:bf) (w:d7) (p:bs.length=16) :
 Calls Tryz.prog 61 #[.agg<|val n bs] w (EM w<|.bool<|Ds n bs):=by
 have q:=UU n bs;by_cases h0:n<0
 .rw[show Ds n bs=false from by simp[Ds]; omega]
  go_enter Tryz.func61,Tryz.ntmps61
  go_wp2
  go_ret
  exact nN
 have b:0<=n:=by omega
 by_cases a:16<n
 .rw[show Ds n bs=false from by simp[Ds]; omega];clear h0
  go_enter Tryz.func61,Tryz.ntmps61
  go_wp2
  go_ret
  exact nN
 obtain⟨k,rfl⟩:=pB b;have r:(k:Int)<=16:=J;have e:=qO<|Mt k bs J;have HI:=qO<|dC bs k p J;have HA:=qO<|Xj1 (k:Int) bs;clear h0 a b
 go_enter Tryz.func61,Tryz.ntmps61
 go_wp2
 go_loop [3] (λi=>∃j:Nat,k<=j/\j<=16/\i=aa j/\∀i,k<=i->i<j->bs[i]?.getD 0=0) (λi=>16-(intOf i).toNat)
 case atStart=>exact⟨k,qb _,J,rfl,λi a d=>absurd d J⟩
 case round =>
  obtain⟨j,l,m,rfl,g⟩:=hrel;have f:=qO g;clear g;by_cases hlt:j<16
  .have y:=HA.out j J;obtain⟨z,x⟩:∃z,bs[j]?.getD 0=z:=⟨_,rfl⟩
   rw[x] at y;have HN:=qO x;clear x;by_cases hne:z=0
   .subst hne
    go_wp2
    go_round
    case rel=>exact⟨j+1,J,J,by go_num,λi a d=>by
     rcases pG i j with h|h
     .exact f.out i a h
     rw[show i=j from by omega]; exact HN.out⟩
    case measure=>simp[intOf]; omega
   have o:(z != 0)=true:=by simpa using hne
   have c:=qO hne;clear hne
   go_wp2
   go_ret
   exact⟨Q6 (by rw[e.out]; symm; rw[rI,HI.out]; exact λh=>c.out<|HN.out.symm.trans<|h j J hlt),(qT _ _).alloc (qb _) _⟩
  .go_wp2
   go_ret
   exact⟨Q6 (by rw[e.out]; symm; rw[decide_eq_true_iff,HI.out]; exact λi a d=>f.out i a J),(qT _ _).alloc (qb _) _⟩
def pre (zs:bf) (j:Nat):bf:=zs.take j++List.replicate (16-j) 0
end Go.Proofs.YtloldofjddbjoaaGreat
namespace Go.Sep
abbrev Env:=List<|Nat×d0
def look:Env->Nat->Option d0
 |[],_=>none
 |(i,v)::L,k=>bif i.beq k then some v else look L k
structure Know (n:Nat) (L:Env) (a:Act):Prop where
 size:a.tmps.size=n
 defers:a.defers=[]
 get:∀i v,look L i=some v->a.tmps[i]?=some v
def Know.put {n:Nat} {L:Env} {a:Act} (h:Know n L a) {d:Nat} (v:d0) (hd:d.blt n):Know n ((d,v)::L) (a.put (some d) v):=by
 have y:d<n:=by simpa [Nat.blt_eq] using hd
 refine⟨by simp[Act.put,h.size],h.defers,λi u x=>?_⟩;simp only[look] at x;by_cases hi:d=i
 .subst hi;simp at x;subst x;simp[Act.put,h.size,y]
 have:d.beq i=false:=by rw[rM]; intro z; exact hi (Nat.eq_of_beq_eq_true z)
 rw[this] at x;simp at x;simp[Act.put,Array.getElem?_setIfInBounds_ne hi];simpa using h.get i u x
def Sub (L' L:Env):Prop:=∀i v,look L' i=some v->look L i=some v
def Sub.nil {L:Env}:Sub [] L:=λ_ _ h=>wU
def Sub.cons {y L:Env} {i:Nat} {v:d0} (h:look L i=some v) (t:Sub y L):Sub ((i,v)::y) L:=λk u x=>by
 simp only[look] at x
 by_cases hi:i=k
 .subst hi; simp at x; subst x; exact h
 .have:i.beq k=false:=by rw[rM]; intro z; exact hi (Nat.eq_of_beq_eq_true z)
  rw[this] at x; exact t k u x
def Sub.RJ {x L:Env} {i:Nat} {v u:d0} (h:look L i=some u) (e:u=v) (t:Sub x L):Sub ((i,v)::x) L:=Sub.cons (e▸h) t
def Know.sub {n:Nat} {L x:Env} {a:Act} (h:Know n L a) (s:Sub x L):Know n x a:=⟨h.size,h.defers,λi v y=>h.get i v<|s i v y⟩
def ev (L:Env):d5->Option d0
 |.tmp t=>look L t
 |.const v=>some v
 |.global g=>some (.pointer<|some ⟨g,0,none⟩)
 |.func f=>some<|.func (.func f) #[] #[]
def Know.eval {n:Nat} {L:Env} {a:Act} (h:Know n L a) {x:d5} {v:d0} (y:ev L x=some v):a.eval x=v:=by
 cases x with
 |tmp t=>have:=h.get t v y; simp[Act.eval,rN,this]
 |const u=>simp[ev] at y; subst y; rfl
 |global g=>simp[ev] at y; subst y; rfl
 |func f=>simp[ev] at y; subst y; rfl
def Pre (n:Nat) (L:Env) (X:aU) (F:aO):Prop:=∀a w,Know n L a->X w->F a w
section code
variable {P:d8} {n:Nat} {L:Env} {X:aU} {Q:aB}
def Pre.sub {F:aO} (y:Env) (s:Sub y L) (h:Pre n y X F):Pre n L X F:=λa w k x=>h a w (k.sub s) x
def Pre.world {F:aO} (X':aU) (s:∀w,X w->X' w) (h:Pre n L X' F):Pre n L X F:=λa w k x=>h a w k<|s w x
def Pre.fact {F:aO} {p:Prop} (s:∀w,X w->p) (h:p->Pre n L X F):Pre n L X F:=λa w k x=>h (s w x) a w k x
def Pre.Xja {F:aO} {α:Type} {p:α->Prop} {X':α->aU} (s:∀w,X w->∃b,p b/\X' b w) (h:∀b,p b->Pre n L (X' b) F):Pre n L X F:=λa w k x=>by
 obtain⟨b,z,y⟩:=s w x
 exact h b z a w k y
def Ad {c d:Code} (h:Pre n L X<|c.wp P<|Exit.then (d.wp P Q) Q):Pre n L X ((Code.seq c d).wp P Q):=λa w k x=>wp_seq Vm
abbrev E:=@Ad
def Ah (h:Pre n L X<|Q .normal):Pre n L X (Code.skip.wp P Q):=λa w k x=>wp_skip Vm
def Af {y:Nat} {c:Code} (h:Pre n L X<|c.wp P<|Exit.inBlock y Q):Pre n L X ((Code.block y c).wp P Q):=λa w k x=>wp_block Vm
def AP {y:Nat} (h:Pre n L X<|Q<|.exit y):Pre n L X ((Code.exit y).wp P Q):=λa w k x=>wp_exit Vm
def Al (h:Pre n L X<|Q .ret):Pre n L X (Code.ret.wp P Q):=λa w k x=>wp_ret Vm
abbrev s:=@Al
def Am {c:d5} {x y:Code} (b:ev L c=some (.bool true)) (z:Pre n L X<|x.wp P Q):Pre n L X ((Code.cond c x y).wp P Q):=λa w k h=>wp_cond_true (k.eval b)<|z a w k h
def Ab {c:d5} {x y:Code} (b:ev L c=some (.bool false)) (z:Pre n L X<|y.wp P Q):Pre n L X ((Code.cond c x y).wp P Q):=λa w k h=>wp_cond_false (k.eval b)<|z a w k h
def Mu {K:aO} (h:Pre n L X K):Pre n L X (Exit.then K Q .normal):=h
def Aa {K:aO} {x:Nat} (h:Pre n L X<|Q<|.exit x):Pre n L X (Exit.then K Q<|.exit x):=h
def Ag {K:aO} (h:Pre n L X<|Q .ret):Pre n L X (Exit.then K Q .ret):=h
def Au {x:Nat} (h:Pre n L X<|Q .normal):Pre n L X (Exit.inBlock x Q .normal):=h
def Ar {y:Nat} (h:Pre n L X<|Q .normal):Pre n L X (Exit.inBlock y Q<|.exit y):=λa w k x=>by
 show (if y=y then Q .normal a w else Q (.exit y) a w)
 rw[pN rfl]; exact Vm
def Ao {z y:Nat} (b:Nat.beq y z=false) (h:Pre n L X<|Q<|.exit y):Pre n L X (Exit.inBlock z Q<|.exit y):=λa w k x=>by
 show (if y=z then Q .normal a w else Q (.exit y) a w)
 rw[pQ<|λe=>by subst e; simp at b]; exact Vm
def AA {x:Nat} (h:Pre n L X<|Q .ret):Pre n L X (Exit.inBlock x Q .ret):=h
def Ll {α:Type} (n:Nat) (μ:α->Nat) (Lv:α->Env) (Xv:α->aU) (p:α->Prop) (m:Nat):aO:=λa w=>∃b,μ b<m/\p b/\Know n (Lv b) a/\Xv b w
def KD {α:Type} {c:Code} (q:α->Env) (o:α->aU) (p:α->Prop) (μ:α->Nat) (i:α) (D:p i) (E:Sub (q i) L) (K:∀w,X w->o i w)
 (z:∀b,p b->Pre n (q b) (o b) (c.wp P<|Exit.then (Ll n μ q o p<|μ b) Q)):Pre n L X ((Code.loop c).wp P Q):=by
 intro a w k x
 have key:∀(m:Nat) (b:α),μ b=m->p b->∀a w,Know n (q b) a->o b w->∀(fr:Frame) (t:List Item) (cs:List Frame),
  ∃e j w',Q e j w'/\Arrives P (lone (fr.at a<|.code c::.inLoop c::t) cs w) fr t cs e j w':=by
  intro m
  induction m using Nat.strongRecOn with
  |_ m ih =>
   intro b hm C a w G F fr t cs;obtain⟨e,f,g,y,h⟩:=z b C a w G F fr (.inLoop c::t) cs;cases e with
   |normal =>
    obtain⟨B,A,s,r,u⟩:=y;obtain⟨J,M,H,v,d⟩:=ih (μ B) (hm▸A) B rfl s f g r u fr t cs;exact⟨J,M,H,v,.of_steps (Steps.trans h<|.one step_inLoop) d⟩
   |exit id=>exact xL
   |goto l=>exact xL
   |ret=>exact xL
   |panic ch=>exact xL
   |outgrown=>exact xL
 intro fr t cs;obtain⟨e,j,w',y,h⟩:=key (μ i) i rfl D a w (k.sub E) (K w x) fr t cs;exact⟨e,j,w',y,.of_steps (.one step_loop) h⟩
def AJ {α:Type} {μ:α->Nat} {h:α->Env} {y:α->aU} {p:α->Prop} {m:Nat} (b:α) (hm:μ b<m) (c:p b) (d:Sub (h b) L) (z:∀w,X w->y b w):Pre n L X (Exit.then (Ll n μ h y p m) Q .normal) :=
 λa w k x=>⟨b,hm,c,k.sub d,z w x⟩
def dD {α:Type} (n:Nat) (Lv:α->Env) (Xv:α->aU) (p:α->Prop):aO:=λa w=>∃b,p b/\Know n (Lv b) a/\Xv b w
def Bf {α:Type} {h:α->Env} {y:α->aU} {p:α->Prop} (b:α) (c:p b) (d:Sub (h b) L) (z:∀w,X w->y b w):Pre n L X (Exit.then (dD n h y p) Q .normal) :=
 λa w k x=>⟨b,c,k.sub d,z w x⟩
end code
def Ju:Nat->bi->Env
 |_,[]=>[]
 |i,v::vs=>(i,v)::Ju (i+1) vs
def Jv:∀(vs:bi) (i k:Nat) (v:d0),look (Ju i vs) k=some v->∃j,k=i+j/\vs[j]?=some v
 |[],_,_,_,h=>wU
 |u::vs,i,k,v,h=>by
  simp only[Ju,look] at h
  by_cases hi:i=k
  .subst hi; simp at h; subst h; exact⟨0,rfl,rfl⟩
  .have:i.beq k=false:=by rw[rM]; intro x; exact hi (Nat.eq_of_beq_eq_true x)
   rw[this] at h
   obtain⟨j,e,hj⟩:=Jv vs (i+1) k v h
   exact⟨j+1,J,hj⟩
def enter {P:d8} {f n:Nat} {fn:Func} {c:Code} {vs:bi} {w:d7} {R:Ending->aU} (X:aU) (b:P.funcs[f]?=some fn) (d:fn.body=some c) (y:fn.ntmps=n) (z:vs.length.ble n) (g:X w)
 (h:Pre n (Ju 0 vs) X<|c.wp P<|bodyPost P fn R):Calls P f vs.toArray w R:=by
 subst y;refine calls_of_wp b d<|h _ w ⟨?_,rfl,λi v a=>?_⟩ g
 .have:=rO z;simp; omega
 exact Xd0
def Ln (L:Env):List ResultVar->Option (bi)
 |[]=>some []
 |.tmp t::rs=>match look L t,Ln L rs with
  |some v,some vs=>some (v::vs)
  |_,_=>none
 |.cell _ _::_=>none
def Jw (tmps:cb):ResultVar->Sem d0
 |.tmp t=>pure (tmps.getD t undef)
 |.cell x t=>do loadVar t (<-asAddr (tmps.getD x undef))
def Mw {P:d8} {n:Nat} {L:Env} {a:Act} {w:d7} (k:Know n L a):∀(rs:List ResultVar) (vs:bi),Ln L rs=some vs ->
 (rs.mapM<|Jw a.tmps).run P w=.ok vs w
 |[],vs,h=>jq
 |.tmp t::rs,vs,h=>by
  simp only[Ln] at h
  cases ht:look L t with
  |none=>rw[ht] at h; cases h
  |some v =>
   cases hr:Ln L rs with
   |none=>rw[ht,hr] at h; cases h
   |some us =>
    rw[ht,hr] at h
    cases h
    have:=k.get t v ht
    simp[List.mapM_cons,Mw k rs us hr,Jw,rN,this]
 |.cell _ _::_,_,h=>wU
def ie:bi->d0
 |[v]=>v
 |vs=>.tuple vs.toArray
def Gq {P:d8} {n:Nat} {L:Env} {a:Act} {w:d7} (k:Know n L a) {fn:Func} {rs:List ResultVar} {vs:bi} (x:fn.results=rs.toArray) (h:Ln L rs=some vs) :
 (results fn a.tmps).run P w=.ok (ie vs) w:=by
 have:=Mw (P:=P) (w:=w) k rs vs h;have e:(results fn a.tmps)=(do let vs<-fn.results.mapM (Jw a.tmps); pure (if h:vs.size=1 then vs[0] else .tuple vs)):=rfl;rw[e,x];simp only[List.mapM_toArray,qC,Sem.run_map,this,qE,qD]
 match vs with
 |[]=>rfl
 |[v]=>rfl
 |u::v::ws=>simp[ie]
section
variable {P:d8} {n:Nat} {L:Env} {X:aU} {fn:Func} {R:Ending->aU}
def Av {t:Nat} {v:d0} (y:fn.results=#[.tmp t]) (h:look L t=some v) (z:∀w,X w->R (.returned v) w):Pre n L X (bodyPost P fn R .ret):=λa w k x =>
 ⟨k.defers,v,Gq (rs:=[.tmp t]) (vs:=[v]) k y (by simp[Ln,h]),z w x⟩
def Bw {rs:List ResultVar} {u v:d0} {vs:bi} (y:fn.results=rs.toArray) (h:Ln L rs=some (u::v::vs)) (z:∀w,X w->R (.returned<|.tuple (u::v::vs).toArray) w):Pre n L X (bodyPost P fn R .ret):=λa w k x =>
 ⟨k.defers,_,Gq (rs:=rs) k y h,z w x⟩
def Bl (h:fn.results=#[]) (y:∀w,X w->R (.returned<|.tuple #[]) w):Pre n L X (bodyPost P fn R .ret):=λa w k x =>
 ⟨k.defers,_,Gq (rs:=[]) k h rfl,y w x⟩
def AW (h:Pre n L X<|bodyPost P fn R .ret):Pre n L X (bodyPost P fn R .normal):=h
end
def CL (ops:bM) (L:Env) (o:Oper):Option Bool :=
 match o.guard with
 |none=>some true
 |some (j,want) =>
  match (ops[j]?).bind (·.dst) with
  |none=>none
  |some t=>match look L t with
   |some (.bool b)=>some (b == want)
   |some _=>some false
   |none=>none
def CP {ops:bM} {n:Nat} {L:Env} {a:Act} (k:Know n L a) {o:Oper} {b:Bool} (h:CL ops L o=some b):Region.wanted o (yielded ops a.tmps)=b:=by
 unfold CL at h;unfold Region.wanted;cases hg:o.guard with
 |none=>rw[hg] at h; simp at h; rw[<-h]
 |some jw =>
  obtain⟨j,x⟩:=jw;rw[hg] at h;simp only at h ⊢;cases hd:(ops[j]?).bind (·.dst) with
  |none=>rw[hd] at h; cases h
  |some t =>
   rw[hd] at h;simp only at h;cases hl:look L t with
   |none=>rw[hl] at h; cases h
   |some v =>
    rw[hl] at h;have:=k.get t _ hl;unfold yielded;cases v<;>simp only[Option.some.injEq] at h<;>rw[<-h]<;>simp[hd,this]
def Ol (P:d8) (ops:bM) (Q:aB):bv->aO
 |[],a,w=>Q .normal a w
 |o::rest,a,w=>if Region.wanted o (yielded ops a.tmps) then o.wp P a w (Ol P ops Q rest) Q else Ol P ops Q rest (a.put o.dst undef) w
def KE {P:d8} {ops:bM} {Q:aB}:∀(rest:bv) (i:Nat),(∀j,ops[i+j]?=rest[j]?)->∀a w,Ol P ops Q rest a w->wpOps P ops Q (List.range' i rest.length) a w
 |[],i,h,a,w,hw=>hw
 |o::rest,i,h,a,w,hw=>by
  simp only[pz,List.range'_succ]
  rw[wpOps_cons]
  have y:ops[i]?=some o:=by simpa using h 0
  unfold wpOp
  simp only[y]
  have x:∀a w,Ol P ops Q rest a w->wpOps P ops Q (List.range' (i+1) rest.length) a w:=KE rest (i+1) (λj=>by have:=h<|j+1; simpa [qS,rp 1 j] using this)
  unfold Ol at hw
  split
  .rename_i hq; rw[pN hq] at hw; exact .inl<|Oper.wp_mono x hw
  .rename_i hq; rw[pQ hq] at hw; exact x _ _ hw
section tail
variable {P:d8} {ops:bM} {Q:aB} {md:Region.Mode} {S:aU} {T:bm}
def Em (P:d8) (md:Region.Mode) (ops:bM) (Q:aB) (S:aU) (T:bm):Nat->bz->aO
 |0,listed,a,w=>Region.ready md ops listed=[]/\Q .normal a w
 |fuel+1,listed,a,w =>
  (Region.ready md ops listed=[]->Q .normal a w) /\
  ∀i∈Region.ready md ops listed,wpOp P ops Q i (λa' w'=>(T.contains i=false->S w')/\Em P md ops Q S T fuel (listed.setIfInBounds i true) a' w') a w
def Mx:∀(x:Nat) (listed:bz) (a:Act) (w:d7),Em P md ops Q S T x listed a w->wpAny P md ops Q x listed a w
 |0,_,_,_,h=>h
 |x+1,_,_,_,h=>⟨h.1,λi hi=>wpOp_mono (λy w' z=>Mx x _ y w' z.2)<|h.2 i hi⟩
def EN (md:Region.Mode) (ops:bM) (i:Nat):Nat->Nat->Bool
 |0,_=>false
 |k+1,t=>((ops[t]?).getD default).after.toList.any<|λe=>Region.binds md e&&(e.on == i||EN md ops i k e.on)
def EO (md:Region.Mode) (ops:bM) (listed:bz):Prop:=∀j o,ops[j]?=some o->listed.getD j true=true->∀e∈o.after,Region.binds md e=true->listed.getD e.on false=true
def Rb:EO md ops (Array.replicate ops.size false):=λj o h x=>by
 have hj:=(pY.1 h).1
 simp[hj] at x
def CA {j:Nat} {listed:bz} (h:EO md ops listed) (f:j∈Region.ready md ops listed):EO md ops (listed.setIfInBounds j true):=by
 intro k o d b e z c
 have mono:listed.getD e.on false=true->(listed.setIfInBounds j true).getD e.on false=true:=λa=>by
  simp only[rN,rP] at a ⊢;split
  .split<;>simp_all
  exact a
 by_cases hkj:k=j
 .subst hkj;obtain⟨_,g,y,x⟩:=mem_ready.1 f;rw[d] at y; cases y
  exact mono<|x e z c
 rw[getD_set_ne true<|rQ hkj] at b;exact mono<|h k o d b e z c
def EP {i:Nat} {listed:bz} (d:EO md ops listed):∀(k t:Nat),EN md ops i k t=true->(∀o,ops[t]?=some o->∀e∈o.after,Region.binds md e=true->listed.getD e.on false=true)->listed.getD i false=true
 |0,t,h,_=>wU
 |k+1,t,h,hd=>by
  unfold EN at h
  obtain⟨e,x,c⟩:=rR.1 h
  simp only[qW,Bool.or_eq_true,rS] at c
  cases ho:ops[t]? with
  |none =>
   rw[ho] at x
   have g:(default:Oper).after=#[]:=rfl
   rw[Option.getD_none,g] at x
   cases x
  |some o =>
   rw[ho,qx] at x
   have z:=Array.mem_toList_iff.1 x
   have y:=hd o ho e z c.1
   rcases c.2 with rfl|f
   .exact y
   .refine EP d k e.on f (λj a=>d e.on j a ?_)
    simp only[rN] at y ⊢
    cases hx:listed[e.on]? with
    |none=>rfl
    |some b=>rw[hx] at y; simpa using y
def Py (md:Region.Mode) (ops:bM) (T:bm):Bool:=T.all<|λt=>(List.range ops.size).all<|λi=>T.contains i||EN md ops i 4 t
def Rc {listed:bz} (h:Py md ops T) (e:EO md ops listed) {t i:Nat} (d:T.contains t) (hi:T.contains i=false) (z:i<ops.size) (c:t∈Region.ready md ops listed):listed.getD i false=true:=by
 have a:=rT.1 (rT.1 h t<|by simpa using d) i<|qm.2 z;rw[hi,Bool.false_or] at a;obtain⟨_,f,y,x⟩:=mem_ready.1 c;exact EP e 4 t a<|λo b=>by rw[y] at b; cases b; exact x
def XeD {i:Nat} {g:Oper} {v:d0} (hi:ops[i]?=some g) (W:Py md ops T) (J:T.contains i=false) (d:∀(j:Nat) (o:Oper) cs b,ops[j]?=some o->o.op≠.select cs b)
 (U:∀c a w,Q (.panic c) (a.put g.dst v) w->Q (.panic c) a w) :
 ∀(x:Nat) (listed:bz) (a:Act) (w:d7),EO md ops listed ->
  (∀j l,ops[j]?=some l->j≠i->listed.getD j true=false->(∀e∈l.after,Region.binds md e=true->e.on≠i)->g.apart ops l=true) ->
  i∈Region.ready md ops listed->YieldsIf P ops S g v a->S w ->
  Em P md ops Q S T x (listed.setIfInBounds i true) (a.put g.dst v) w->Em P md ops Q S T (x+1) listed a w:=by
 intro x
 induction x with
 |zero =>
  exact XdP
 |succ x ih =>
  intro listed a w u y m C s H;refine⟨λh=>uw,λj hj=>?_⟩;by_cases hji:j=i
  .subst hji; exact wS
  have p:=H.2 j (ready_mono hj hji);obtain⟨f,l,n,q⟩:=mem_ready.1 hj
  have A:listed.getD i false≠true:=λp=>by
   exact Xd7
  have t:∀e∈l.after,Region.binds md e=true->e.on≠i:=λe O V K=>A<|K▸q e O V
  have D:T.contains j=false:=by
   cases hc:T.contains j with
   |false=>rfl
   |true=>exact absurd (Rc W u hc J (pY.1 hi).1 hj) A
  have N:=wpOp_putIf n (y j l n hji f t) (λcs b=>d i g cs b hi) (λcs b=>d j l cs b n) U C p
  have z:∀k ok,ops[k]?=some ok->k≠i->(listed.setIfInBounds j true).getD k true=false ->
   (∀e∈ok.after,Region.binds md e=true->e.on≠i)->g.apart ops ok=true:=λk ok R E r F=>by
   exact ZAG
  refine wpOp_mono (λM w' B=>⟨B.2.1,ih (listed.setIfInBounds j true) M w' (CA u hj) z (ready_mono m<|rQ hji) B.1 (B.2.1 D) ?_⟩) N;rw[Array.setIfInBounds_comm _ _ hji];exact B.2.2
end tail
abbrev EA:=Option Bool
def Q8 (P:d8) (ops:bM) (Q:aB) (S:aU):List (Oper×EA)->aO
 |[],a,w=>Q .normal a w
 |(o,some true)::rest,a,w=>∃v,YieldsIf P ops S o v a/\Q8 P ops Q S rest (a.put o.dst v) w
 |(o,some false)::rest,a,w=>if Region.wanted o (yielded ops a.tmps) then o.wp P a w (λa' w'=>S w'/\Q8 P ops Q S rest a' w') Q else Q8 P ops Q S rest (a.put o.dst undef) w
 |(o,none)::rest,a,w=>if Region.wanted o (yielded ops a.tmps) then o.wp P a w (Q8 P ops Q S rest) Q else Q8 P ops Q S rest (a.put o.dst undef) w
def Dy (ops:bM) (T:bm):List (Nat×EA)->bz->Bool
 |[],listed=>Region.ready .any ops listed == []
 |(i,some true)::rest,listed=>!T.contains i&&Region.free .any ops listed i&&(Region.ready .any ops listed).contains i&&Dy ops T rest (listed.setIfInBounds i true)
 |(i,some false)::rest,listed=>Region.ready .any ops listed == [i]&&Dy ops T rest (listed.setIfInBounds i true)
 |(i,none)::rest,listed=>T.contains i&&Region.ready .any ops listed == [i]&&rest.all (λx=>match x.2 with|none=>true|_=>false)&&Dy ops T rest (listed.setIfInBounds i true)
def Fu (Q:aB):Prop:=∀c a d v w,Q (.panic c) (a.put d v) w->Q (.panic c) a w
def Bg {K:aO} {Q:aB} (h:Fu Q):Fu (Exit.then K Q):=λc a d v w x=>h c a d v w x
def Cn {x:Nat} {Q:aB} (h:Fu Q):Fu (Exit.inBlock x Q):=λc a d v w y=>h c a d v w y
def BO {P:d8} {fn:Func} {R:Ending->aU}:Fu (bodyPost P fn R):=λc a d v w h=>by
 obtain⟨x,y⟩:=h
 exact⟨by cases d<;>exact x,y⟩
def Xhx {P:d8} {ops:bM} {Q:aB} {S:aU} {T:bm} {i:Nat} {y:Oper} {v:d0} {x:Nat} {listed:bz} {a:Act} {w:d7} (z:EO .any ops listed) (hi:ops[i]?=some y) (l:Py .any ops T) (b:T.contains i=false)
 (g:Region.noSelect ops) (j:Region.free .any ops listed i) (e:(Region.ready .any ops listed).contains i)
 (f:∀c a w,Q (.panic c) (a.put y.dst v) w->Q (.panic c) a w) (k:YieldsIf P ops S y v a) (d:S w)
 (h:Em P .any ops Q S T x (listed.setIfInBounds i true) (a.put y.dst v) w):Em P .any ops Q S T (x+1) listed a w :=
 XeD hi l b (Region.noSelect_spec g) f x listed a w z (Region.free_spec hi j) (by simpa using e) k d h
def Xbo {P:d8} {ops:bM} {Q:aB} {S:aU} {T:bm} {i:Nat} {x:Nat} {listed:bz} {a:Act} {w:d7} (y:Region.ready .any ops listed=[i])
 (h:wpOp P ops Q i (λz w'=>(T.contains i=false->S w')/\Em P .any ops Q S T x (listed.setIfInBounds i true) z w') a w):Em P .any ops Q S T (x+1) listed a w :=
 ⟨λb=>(by rw[b] at y; cases y),λj hj=>ZG0⟩
def GX {P:d8} {ops:bM} {Q:aB} (p:Fu Q) {S:aU} {T:bm} (r:Py .any ops T) (n:Region.noSelect ops):∀(y:List<|Nat×EA) (l:List<|Oper×EA) (listed:bz) (a:Act) (w:d7),
 l.map (λx=>some x.1)=y.map (λx=>ops[x.1]?)->l.map (·.2)=y.map (·.2)->Dy ops T y listed=true->EO .any ops listed->(S w\/(y.all<|λx=>match x.2 with|none=>true|_=>false)=true)->Q8 P ops Q S l a w->Em P .any ops Q S T y.length listed a w
 |[],l,listed,a,w,f,e,z,hcl,hS,b=>by
  exact ZDY
 |(i,q)::y,[],listed,a,w,f,e,z,hcl,hS,b=>by simp at f
 |(i,q)::y,(o,q')::l,listed,a,w,f,e,z,hcl,hS,b=>by
  simp only[qG,List.cons.injEq] at f e
  obtain⟨t,f⟩:=f
  obtain⟨rfl,e⟩:=e
  match q',e,z,hS,b with
  |some true,e,z,hS,b =>
   simp only[Dy,qW,rV] at z
   obtain⟨⟨⟨j,u⟩,m⟩,z⟩:=z
   have g:S w:=hS.resolve_right A3
   obtain⟨v,A,b⟩:=b
   have d:i∈Region.ready .any ops listed:=by simpa using m
   exact Xhx hcl t.symm r j n u m (λc a w h=>p c a _ _ w h) A g (GX p r n y l _ _ _ f e z XD (.inl g) b)
  |some false,e,z,hS,b =>
   simp only[Dy,qW,rS] at z
   obtain⟨m,z⟩:=z
   have g:S w:=hS.resolve_right A3
   have d:i∈Region.ready .any ops listed:=jC
   refine Xbo m ?_
   unfold wpOp
   rw[<-t]
   simp only
   unfold Q8 at b
   split
   .rename_i hq
    rw[pN hq] at b
    exact .inl<|Oper.wp_mono (λa w h=>⟨λ_=>h.1,GX p r n y l _ _ _ f e z XD (.inl h.1) h.2⟩) b
   .rename_i hq
    rw[pQ hq] at b
    exact⟨λ_=>g,GX p r n y l _ _ _ f e z XD (.inl g) b⟩
  |none,e,z,hS,b =>
   simp only[Dy,qW,rS] at z
   obtain⟨⟨⟨j,m⟩,k⟩,z⟩:=z
   have d:i∈Region.ready .any ops listed:=jC
   refine Xbo m ?_
   unfold wpOp
   rw[<-t]
   simp only
   unfold Q8 at b
   split
   .rename_i hq
    rw[pN hq] at b
    exact .inl<|Oper.wp_mono (λa w h=>⟨λs=>iJ,GX p r n y l _ _ _ f e z XD (.inr k) h⟩) b
   .rename_i hq
    rw[pQ hq] at b
    exact⟨λs=>iJ,GX p r n y l _ _ _ f e z XD (.inr k) b⟩
def Re (X:aU):Prop:=∀w m,X w->X {w with drawn:=m}
section region
variable {P:d8} {n:Nat} {L:Env} {X:aU} {Q:aB} {ops:bM}
def Xa0 {y:Nat} (l:bv) (z:ops=l.toArray) (h:Pre n L X<|Ol P ops Q l):Pre n L X ((Code.region y ops false).wp P Q):=λa w k x=>by
 subst z
 refine wp_region ?_
 have:=KE (P:=P) (ops:=l.toArray) (Q:=Q) l 0 (λj=>A3) a w Vm
 simpa [List.range_eq_range'] using this
def AE (h:Pre n L X<|Q .normal):Pre n L X (Ol P ops Q []):=h
def AN {S:aU} (h:Pre n L X<|Q .normal):Pre n L X (Q8 P ops Q S []):=h
def MV (P:d8) (n:Nat) (L:Env) (X:aU) (o:Oper) (v:d0):Prop:=∀a w,Know n L a->X w->(execOp a.eval o).run P w=.ok (.value v) w
def ZH {o:Oper} {rest:bv} {v:d0} {d:Nat} (hd:o.dst=some d) (b:MV P n L X o v) (y:CL ops L o=some true) (z:d.blt n) (h:Pre n ((d,v)::L) X<|Ol P ops Q rest):Pre n L X (Ol P ops Q<|o::rest):=λa w k x=>by
 unfold Ol
 rw[pN<|CP k y]
 unfold Oper.wp
 rw[b a w k x]
 show Ol P ops Q rest (a.put o.dst v) w
 rw[hd]
 exact h _ _ (k.put v z) x
def XkO {o:Oper} {rest:bv} {d:Nat} (hd:o.dst=some d) (y:CL ops L o=some false) (z:d.blt n) (h:Pre n ((d,undef)::L) X<|Ol P ops Q rest):Pre n L X (Ol P ops Q<|o::rest):=λa w k x=>by
 unfold Ol
 exact lV
def aY {S:aU} {o:Oper} {rest:List<|Oper×EA} {v:d0} {d:Nat} (hd:o.dst=some d) (b:MV P n L S o v) (y:CL ops L o=some true) (z:d.blt n) (h:Pre n ((d,v)::L) X<|Q8 P ops Q S rest):Pre n L X (Q8 P ops Q S<|(o,some true)::rest):=λa w k x=>by
 refine⟨v,Or.inl ⟨CP k y,λw' c=>b a w' k c⟩,?_⟩
 rw[hd]
 exact h _ _ (k.put v z) x
def l4 {S:aU} {o:Oper} {q:EA} {rest:List<|Oper×EA} {d:Nat} (hd:o.dst=some d) (y:CL ops L o=some false) (z:d.blt n) (h:Pre n ((d,undef)::L) X<|Q8 P ops Q S rest):Pre n L X (Q8 P ops Q S<|(o,q)::rest):=λa w k x=>by
 match q with
 |some true =>
  refine⟨undef,Or.inr ⟨CP k y,rfl⟩,?_⟩
  rw[hd]
  exact h _ _ (k.put undef z) x
 |some false =>
  unfold Q8
  exact lV
 |none =>
  unfold Q8
  exact lV
def Nl (P:d8) (n:Nat) (L:Env) (X:aU) (o:Oper) (Q:aB) (K:aO):Prop:=Pre n L X<|λa w=>o.wp P a w K Q
def LW {o:Oper} {rest:bv} (y:CL ops L o=some true) (h:Nl P n L X o Q<|Ol P ops Q rest):Pre n L X (Ol P ops Q<|o::rest):=λa w k x=>by
 unfold Ol
 rw[pN<|CP k y]
 exact Vm
abbrev Z:=@LW
def je (S:aU) (F:aO):aO:=λa w=>S w/\F a w
def MX {S:aU} {o:Oper} {rest:List<|Oper×EA} (y:CL ops L o=some true) (h:Nl P n L X o Q<|je S<|Q8 P ops Q S rest):Pre n L X (Q8 P ops Q S<|(o,some false)::rest):=λa w k x=>by
 unfold Q8
 rw[pN<|CP k y]
 exact Vm
def KC {S:aU} {o:Oper} {rest:List<|Oper×EA} (y:CL ops L o=some true) (h:Nl P n L X o Q<|Q8 P ops Q S rest):Pre n L X (Q8 P ops Q S<|(o,none)::rest):=λa w k x=>by
 unfold Q8
 rw[pN<|CP k y]
 exact Vm
def Ai {S:aU} {F:aO} (y:∀w,X w->S w) (h:Pre n L X F):Pre n L X (je S F):=λa w k x=>⟨y w x,h a w k x⟩
def Pre.setB {F:aO} {t:Nat} {b c:Bool} (y:look L t=some (.bool b)) (e:b=c) (h:Pre n ((t,.bool c)::L) X F):Pre n L X F:=λa w k x=>h a w (k.sub<|Sub.cons (by rw[y,e])<|λ_ _ h=>h) x
def Pre.XlI {F:aO} {t:Nat} {b c:d0} (y:look L t=some b) (e:b=c) (h:Pre n ((t,c)::L) X F):Pre n L X F:=λa w k x=>h a w (k.sub<|Sub.cons (by rw[y,e])<|λ_ _ h=>h) x
def Pre.PY {F:aO} {b:Bool} (t:Nat) (h:look L t=some (.bool b)) (x:b=true->Pre n ((t,.bool true)::L) X F) (y:b=false->Pre n ((t,.bool false)::L) X F):Pre n L X F:=by
 cases b with
 |true=>exact Pre.setB h rfl (x rfl)
 |false=>exact Pre.setB h rfl (y rfl)
end region
section anyH
variable {P:d8} {n:Nat} {L:Env} {X:aU} {Q:aB} {S:aU} {l:bv} {listed:bz} {k:Nat}
def DP {y:Nat} (S:aU) (hm:P.follows .mixedOrders) (hd:Re X) (h:Pre n L X<|wpAnyH P .any l.toArray Q S l.toArray.size<|Array.replicate l.toArray.size false):Pre n L X ((Code.region y l.toArray true).wp P Q):=λa w z x =>
 wp_region_held (S:=S) hm<|h a _ z<|hd w _ x
def a_q {o:Oper} {v:d0} {d:Nat} (m:Fu Q) (i:Nat) (hi:l[i]?=some o) (j:Region.noSelect l.toArray) (p:Region.free .any l.toArray listed i) (g:(Region.ready .any l.toArray listed).contains i) (z:∀w,X w->S w) (hd:o.dst=some d) (e:MV P n L S o v) (b:CL l.toArray L o=some true) (q:d.blt n)
 (h:Pre n ((d,v)::L) X<|wpAnyH P .any l.toArray Q S k<|listed.setIfInBounds i true):Pre n L X (wpAnyH P .any l.toArray Q S (k+1) listed):=λa w y x =>
 wpAnyH_take (by rw[rj]; exact hi) j p g (λc a w h=>m c a _ _ w h) (Or.inl ⟨CP y b,λw' f=>e a w' y f⟩) (z w x)<|by
  rw[hd]; exact h _ _ (y.put v q) x
abbrev GN (P:d8) (l:bv) (Q:aB) (S:aU) (k:Nat) (listed:bz) (i:Nat):aO:=je S<|wpAnyH P .any l.toArray Q S k<|listed.setIfInBounds i true
def Wk {o:Oper} {i:Nat} (hi:l[i]?=some o) (z:CL l.toArray L o=some true) (h:Nl P n L X o Q<|GN P l Q S k listed i):Pre n L X (wpOp P l.toArray Q i<|λb w'=>S w'/\wpAnyH P .any l.toArray Q S k (listed.setIfInBounds i true) b w'):=λa w y x=>by
 unfold wpOp
 rw[rj,hi]
 simp only[CP y z,qX]
 exact .inl<|h a w y x
def Xj2 {y:Oper} (h:Nat) (z:Region.ready .any l.toArray listed=[h]) (d:l[h]?=some y) (e:CL l.toArray L y=some true) (b:Nl P n L X y Q<|GN P l Q S k listed h):Pre n L X (wpAnyH P .any l.toArray Q S (k+1) listed):=λa w c x =>
 wpAnyH_all z j<|λj hj=>by simp only[pj,rX,rY] at hj; subst hj; exact Wk d e b a w c x
def Xj3 {b y:Oper} (h z:Nat) (d:Region.ready .any l.toArray listed=[h,z]) (g:l[h]?=some b) (o:l[z]?=some y) (m:CL l.toArray L b=some true) (f:CL l.toArray L y=some true)
 (e:Nl P n L X b Q<|GN P l Q S k listed h) (i:Nl P n L X y Q<|GN P l Q S k listed z):Pre n L X (wpAnyH P .any l.toArray Q S (k+1) listed):=λa w c x =>
 wpAnyH_all d j<|λj hj=>by
  simp only[pj,rX,rY] at hj
  rcases hj with rfl|rfl
  .exact Wk g m e a w c x
  .exact Wk o f i a w c x
def Xcl {c b d:Oper} (z y e:Nat) (p:Region.ready .any l.toArray listed=[z,y,e]) (m:l[z]?=some c) (g:l[y]?=some b) (t:l[e]?=some d) (o:CL l.toArray L c=some true) (r:CL l.toArray L b=some true) (s:CL l.toArray L d=some true)
 (q:Nl P n L X c Q<|GN P l Q S k listed z) (f:Nl P n L X b Q<|GN P l Q S k listed y) (i:Nl P n L X d Q<|GN P l Q S k listed e):Pre n L X (wpAnyH P .any l.toArray Q S (k+1) listed):=λa w h x =>
 wpAnyH_all p j<|λj hj=>by
  simp only[pj,rX,rY] at hj
  rcases hj with rfl|rfl|rfl
  .exact Wk m o q a w h x
  .exact Wk g r f a w h x
  .exact Wk t s i a w h x
def l5 (y:Region.ready .any l.toArray listed=[]) (h:Pre n L X<|Q .normal):Pre n L X (wpAnyH P .any l.toArray Q S k listed):=λa w z x=>wpAnyH_done y (h a w z x) k
end anyH
section
variable {P:d8} {n:Nat} {L:Env} {X:aU} {o:Oper}
def MV.mk {v:d0} (s:Act->Sem d0) (y:∀a,execOp a.eval o=(do pure (.value<|<-s a))) (h:∀a w,Know n L a->X w->(s a).run P w=.ok v w):MV P n L X o v:=λa w k x=>by
 rw[y]; simp[h a w k x]
def MV.sub {X':aU} {v:d0} (h:MV P n L X o v) (s:∀w,X' w->X w):MV P n L X' o v:=λa w k x=>h a w k<|s w x
def AY {x:d5} {v:d0} (y:o.op=.move x) (h:ev L x=some v):MV P n L X o v:=λa w k z=>by
 simp only[execOp,y,k.eval h]; rfl
def Az {x:d5} {v:d0} (y:o.op=.assign x) (h:ev L x=some v):MV P n L X o v:=λa w k z=>by
 simp only[execOp,y,k.eval h]; rfl
def Rg {c x y:d5} {v:d0} (z:o.op=.pick c x y) (b:ev L c=some (.bool true)) (h:ev L x=some v):MV P n L X o v:=λa w k d=>by
 simp[execOp,z,k.eval h,k.eval b,asBool]
def Xa1 {c x y:d5} {v:d0} (z:o.op=.pick c x y) (b:ev L c=some (.bool false)) (h:ev L y=some v):MV P n L X o v:=λa w k d=>by
 simp[execOp,z,k.eval h,k.eval b,asBool]
def DJ {op:BinOp} {t u:d4} {x y:d5} {z h v:d0} (f:o.op=.binOp op t x y u) (e:ev L x=some z) (b:ev L y=some h)
 (c:∀w,X w->(do eqGuard op t x y z h; binOp op t z h:Sem d0).run P w=.ok v w):MV P n L X o v:=λa w k x=>by
 have d:=c w x
 simp only[execOp,f,k.eval e,k.eval b]
 rw[qC,d]
 rfl
def Co {z:Int} (h : -9223372036854775808<=z/\z<=9223372036854775807):IntKind.i64.wrap z=z:=by
 rw[IntKind.wrap_i64]; omega
def BX {z:Int} (h:0<=z/\z<=255:=by omega):IntKind.u8.wrap z=z:=by
 simp only[IntKind.wrap,IntKind.signed,IntKind.bits,rZ,r5,r9]; omega
def D4 {z:Int} (h:0<=z/\z<=18446744073709551615:=by omega):IntKind.u64.wrap z=z:=by
 simp only[IntKind.wrap,IntKind.signed,IntKind.bits,rZ,r5,r9]; omega
def CX {op:BinOp} {t:d4} {x y:d5} {j k:d6} {p q:Int} (w:d7):(eqGuard op t x y (.int j p)<|.int k q).run P w=.ok () w:=by
 cases op<;>rfl
def Yx {t u:d4} {x y:d5} {k:d6} {p q:Int} (z:o.op=.binOp .add t x y u) (h:ev L x=some (.int k p)) (a:ev L y=some (.int k q)):MV P n L X o (.int k<|k.wrap<|p+q) :=
 DJ z h a<|λw _=>nC
def l6 {t u:d4} {x y:d5} {k:d6} {p q:Int} (z:o.op=.binOp .sub t x y u) (h:ev L x=some (.int k p)) (a:ev L y=some (.int k q)):MV P n L X o (.int k<|k.wrap<|p-q) :=
 DJ z h a<|λw _=>nC
def Xc2 {t u:d4} {x y:d5} {k:d6} {p q:Int} (z:o.op=.binOp .mul t x y u) (h:ev L x=some (.int k p)) (a:ev L y=some (.int k q)):MV P n L X o (.int k<|k.wrap<|p*q) :=
 DJ z h a<|λw _=>nC
def AZ {t u:d4} {x y:d5} {p q:Int} (a:o.op=.binOp .add t x y u) (h:ev L x=some (aa p)) (b:ev L y=some (aa q)) (z : -9223372036854775808<=p+q/\p+q<=9223372036854775807:=by omega):MV P n L X o (aa<|p+q):=by
 have:=Yx (P:=P) (n:=n) (X:=X) a h b; rwa[Co z] at this
def Ci {t u:d4} {x y:d5} {p q:Int} (a:o.op=.binOp .sub t x y u) (h:ev L x=some (aa p)) (b:ev L y=some (aa q)) (z : -9223372036854775808<=p-q/\p-q<=9223372036854775807:=by omega):MV P n L X o (aa<|p-q):=by
 have:=l6 (P:=P) (n:=n) (X:=X) a h b; rwa[Co z] at this
def Hp {t u:d4} {x y:d5} {p q:Int} (a:o.op=.binOp .mul t x y u) (h:ev L x=some (aa p)) (b:ev L y=some (aa q)) (z : -9223372036854775808<=p*q/\p*q<=9223372036854775807:=by omega):MV P n L X o (aa<|p*q):=by
 have:=Xc2 (P:=P) (n:=n) (X:=X) a h b; rwa[Co z] at this
def Xkx {t u:d4} {x y:d5} {p:Nat} (z:o.op=.binOp .add t x y u) (h:ev L x=some (aa (p:Int))) (a:ev L y=some (aa 1)) (b:p<9223372036854775807):MV P n L X o (aa ((p+1:Nat):Int)):=by
 have:=AZ (P:=P) (n:=n) (X:=X) z h a J;exact this
def Yy {t u:d4} {x y:d5} {k:d6} {p q:Int} (a:o.op=.binOp .rem t x y u) (h:ev L x=some (.int k p)) (b:ev L y=some (.int k q)) (z:q≠0):MV P n L X o (.int k<|p.tmod q) :=
 DJ a h b<|λw _=>by rw[qC,CX]; simp[binOp,Op.intDiv,z]
def Bx {t u:d4} {x y:d5} {k:d6} {p q:Int} (a:o.op=.binOp .rem t x y u) (h:ev L x=some (.int k p)) (c:ev L y=some (.int k q)) (b:0<=p:=by omega) (z:q≠0:=by omega):MV P n L X o (.int k<|p%q):=by
 have:=Yy (P:=P) (n:=n) (X:=X) a h c z;rwa[Int.tmod_eq_emod_of_nonneg b] at this
def ma {t u:d4} {x y:d5} {k:d6} {p q:Int} (a:o.op=.binOp .quo t x y u) (h:ev L x=some (.int k p)) (b:ev L y=some (.int k q)) (z:q≠0):MV P n L X o (.int k<|k.wrap<|p.tdiv q) :=
 DJ a h b<|λw _=>by rw[qC,CX]; simp[binOp,Op.intDiv,z]
def Xee {t u:d4} {x y:d5} {p q:Int} (a:o.op=.binOp .quo t x y u) (z:ev L x=some (aa p)) (b:ev L y=some (aa q)) (h:0<=p:=by omega) (d:0<q:=by omega) (e:p<=9223372036854775807:=by omega):MV P n L X o (aa<|p/q):=by
 have:=ma (P:=P) (n:=n) (X:=X) a z b J;have c:p/q<=p:=Int.ediv_le_self q h;have f:0<=p/q:=Int.ediv_nonneg h J;rw[Int.tdiv_eq_ediv_of_nonneg h,Co J] at this;exact this
def ij {t u:d4} {x y:d5} {k:d6} {p q:Int} (z:o.op=.binOp .eql t x y u) (h:ev L x=some (.int k p)) (a:ev L y=some (.int k q)):MV P n L X o (.bool<|decide (p=q)) :=
 DJ z h a<|λw _=>ZHp
def ik {t u:d4} {x y:d5} {k:d6} {p q:Int} (z:o.op=.binOp .neq t x y u) (h:ev L x=some (.int k p)) (a:ev L y=some (.int k q)):MV P n L X o (.bool<|!decide (p=q)) :=
 DJ z h a<|λw _=>ZHp
def il {t u:d4} {x y:d5} {k:d6} {p q:Int} (z:o.op=.binOp .lss t x y u) (h:ev L x=some (.int k p)) (a:ev L y=some (.int k q)):MV P n L X o (.bool<|decide (p<q)) :=
 DJ z h a<|λw _=>gW
def H5 {t u:d4} {x y:d5} {k:d6} {p q:Int} (z:o.op=.binOp .leq t x y u) (h:ev L x=some (.int k p)) (a:ev L y=some (.int k q)):MV P n L X o (.bool<|decide (p<=q)) :=
 DJ z h a<|λw _=>gW
def Cp {t u:d4} {x y:d5} {k:d6} {p q:Int} (z:o.op=.binOp .gtr t x y u) (h:ev L x=some (.int k p)) (a:ev L y=some (.int k q)):MV P n L X o (.bool<|decide (q<p)) :=
 DJ z h a<|λw _=>gW
def im {t u:d4} {x y:d5} {k:d6} {p q:Int} (z:o.op=.binOp .geq t x y u) (h:ev L x=some (.int k p)) (a:ev L y=some (.int k q)):MV P n L X o (.bool<|decide (q<=p)) :=
 DJ z h a<|λw _=>gW
def KF {s t:d4} {x:d5} {j k:d6} {p:Int} (z:o.op=.convert s t x) (b:P.underlying s=some (.int j)) (c:P.underlying t=some (.int k)) (y:ev L x=some (.int j p)):MV P n L X o (.int k<|k.wrap p) :=
 MV.mk (λa=>convert s t<|a.eval x) bK<|λa w h _=>by
  rw[h.eval y]; simp[convert,underlying,b,c,Conv.intToInt]
def Br {s t:d4} {x:d5} {j k:d6} {p:Int} (z:o.op=.convert s t x) (a:P.underlying s=some (.int j)) (b:P.underlying t=some (.int k)) (y:ev L x=some (.int j p)) (h:k.wrap p=p):MV P n L X o (.int k p):=by
 have:=KF (P:=P) (n:=n) (X:=X) z a b y; rwa[h] at this
def Xc3 {t:d4} {x:d5} {b:Bool} (z:o.op=.unOp .not t x) (y:ev L x=some (.bool b)):MV P n L X o (.bool<|!b) :=
 MV.mk (λa=>Op.unary .not<|a.eval x) bK<|λa w h _=>by rw[h.eval y]; simp[Op.unary]
def mb {x y:d5} {b:ca} {k j:d6} {p q:Int} (d:o.op=.call ⟨.builtin .max,#[x,y],b⟩) (c:ev L x=some (.int k p)) (z:ev L y=some (.int j q)):MV P n L X o (.int k (if q>p then q else p)):=λa w h _=>by
 simp[execOp,d,resolve,invoke,builtin,h.eval c,h.eval z,Builtin.max_,Builtin.max2,Result.andThen]
def mc {x y:d5} {b:ca} {k j:d6} {p q:Int} (d:o.op=.call ⟨.builtin .min,#[x,y],b⟩) (c:ev L x=some (.int k p)) (z:ev L y=some (.int j q)):MV P n L X o (.int k (if q<p then q else p)):=λa w h _=>by
 simp[execOp,d,resolve,invoke,builtin,h.eval c,h.eval z,Builtin.min_,Builtin.min2,Result.andThen]
def Be {t:d4} {d:TypeDesc} (h:P.underlying t=some d) (w:d7):(underlying t).run P w=.ok d w:=by simp[underlying,h]
def KG {t:d4} {x y:d0} {b:Bool} (w:d7) (h:∀d,(Op.equalIn (d+1) t x y).run P w=.ok b w):(Op.equal t x y).run P w=.ok b w:=h 9999
def UX {t e:d4} {p:ce} (h:P.underlying t=some (.pointer e)) (w:d7):(Op.equal t (.pointer p) av).run P w=.ok p.isNone w :=
 KG w<|λd=>ZHG
def Xhy {t e:d4} {p:ce} {l c l' c':Nat} (h:P.underlying t=some (.slice e)) (w:d7):(Op.equal t (.slice p l c)<|.slice none l' c').run P w=.ok p.isNone w :=
 KG w<|λd=>ZHG
def PA {t:d4} {x y:d0} {b:Bool} (w:d7) (z:binOp .eql t x y=(do pure (.bool<|<-Op.equal t x y))) (h:(Op.equal t x y).run P w=.ok b w):(binOp .eql t x y).run P w=.ok (.bool b) w:=by
 rw[z]; simp[h]
def Xb8 {t:d4} {x y:d0} {b:Bool} (w:d7) (z:binOp .neq t x y=(do pure (.bool<|!(<-Op.equal t x y)))) (h:(Op.equal t x y).run P w=.ok b w):(binOp .neq t x y).run P w=.ok (.bool<|!b) w:=by
 rw[z]; simp[h]
def Fv {α:Type} {x:Sem Unit} {y:Sem α} {v:α} {w:d7} (h:x.run P w=.ok () w) (z:y.run P w=.ok v w):(do x; y:Sem α).run P w=.ok v w:=by
 rw[qC,h]; exact z
def me {t u:d4} {x y:d5} {p q:ByteArray} (z:o.op=.binOp .eql t x y u) (h:ev L x=some (.string p)) (a:ev L y=some (.string q)):MV P n L X o (.bool<|p.toList == q.toList) :=
 DJ z h a<|λw _=>by simp[eqGuard,binOp,Op.stringOp]
def E3 {t u e:d4} {x y:d5} {p:ce} (z:o.op=.binOp .eql t x y u) (b:P.underlying t=some (.pointer e)) (h:ev L x=some (.pointer p)) (a:ev L y=some av):MV P n L X o (.bool p.isNone) :=
 DJ z h a<|λw _=>Fv rfl (PA w rfl (UX b w))
def ER {t u e:d4} {x y:d5} {p:ce} (z:o.op=.binOp .neq t x y u) (b:P.underlying t=some (.pointer e)) (h:ev L x=some (.pointer p)) (a:ev L y=some av):MV P n L X o (.bool<|!p.isNone) :=
 DJ z h a<|λw _=>Fv rfl (Xb8 w rfl (UX b w))
def Hq {t u e:d4} {x y:d5} {p:ce} {l c l' c':Nat} (z:o.op=.binOp .eql t x y u) (b:P.underlying t=some (.slice e)) (h:ev L x=some (.slice p l c)) (a:ev L y=some (.slice none l' c')):MV P n L X o (.bool p.isNone) :=
 DJ z h a<|λw _=>Fv rfl (PA w rfl (Xhy b w))
def BB {x:d5} {i:Nat} {vs:bi} {v:d0} (b:o.op=.extract x i) (z:ev L x=some (.tuple vs.toArray)) (h:vs[i]?=some v):MV P n L X o v :=
 MV.mk (λa=>Instr.extract (a.eval x) i) (λa=>by simp[execOp,b])<|λa w y _=>by rw[y.eval z]; simp[Instr.extract,h]
def By {x:d5} {p:Addr} (z:o.op=.nilCheck x) (y:ev L x=some (.pointer<|some p)):MV P n L X o (.pointer<|some p):=λa w h _=>by
 simp only[execOp,z,h.eval y]; rfl
def BT (b f m:Nat):Addr.add ⟨b,f,none⟩ m=⟨b,f+m,none⟩:=by
 unfold Addr.add; split
 .next h=>subst h; rfl
 rfl
def AU {s:d4} {x:d5} {i b off:Nat} {fs:List Field} {f:Field} {sz:Nat} (z:o.op=.fieldAddr s x i) (d:P.underlying s=some (.struct fs.toArray)) (g:fs[i]?=some f) (j:∀w,(sizeOf f.type).run P w=.ok sz w) (h:sz.beq 0=false)
 (y:ev L x=some (.pointer<|some ⟨b,off,none⟩)):MV P n L X o (.pointer<|some ⟨b,off+f.offset,none⟩) :=
 MV.mk (λa=>Instr.fieldAt s (a.eval x) i) bK (λa w c _=>by
  have:sz≠0:=λe=>by subst e; cases h
  rw[c.eval y]; simp[Instr.fieldAt,Be d,g,Instr.sureAddr,fieldPlace,j,this,BT])
def Ic {t e:d4} {x i:d5} {b off len cap sz:Nat} {k:d6} {p:Int} (j:Nat) (f:o.op=.indexAddr t x i) (d:P.underlying t=some (.slice e)) (y:∀w,(sizeOf e).run P w=.ok sz w)
 (c:ev L x=some (.slice (some ⟨b,off,none⟩) len cap)) (hi:ev L i=some (.int k p)) (z:p=(j:Int)) (hj:j<len):MV P n L X o (.pointer<|some ⟨b,off+j*sz,none⟩) :=
 MV.mk (λa=>Instr.indexAt t (a.eval x)<|a.eval i) (λa=>by simp[execOp,f]) (λa w h _=>by
  subst z
  have g:(0:Int)<=(j:Int)/\(j:Int)<(len:Int):=J
  rw[h.eval c,h.eval hi]; simp[Instr.indexAt,asIntOf,Be d,y,hj,BT])
def Bv {t e:d4} {x i:d5} {b off len sz:Nat} {k:d6} {p:Int} (j:Nat) (c:o.op=.indexAddr t x i) (d:P.underlying t=some (.array len e)) (f:∀w,(sizeOf e).run P w=.ok sz w)
 (z:ev L x=some (.pointer<|some ⟨b,off,none⟩)) (hi:ev L i=some (.int k p)) (y:p=(j:Int)) (hj:j<len:=by omega):MV P n L X o (.pointer<|some ⟨b,off+j*sz,none⟩) :=
 MV.mk (λa=>Instr.indexAt t (a.eval x)<|a.eval i) (λa=>by simp[execOp,c]) (λa w h _=>by
  subst y
  have g:(0:Int)<=(j:Int)/\(j:Int)<(len:Int):=J
  rw[h.eval z,h.eval hi]; simp[Instr.indexAt,asIntOf,Be d,f,hj,Instr.sureAddr,BT])
def Dz {t:d4} {x:d5} {i:Nat} {fs:List Field} {f:Field} {cs:bi} {v:d0} (c:o.op=.field t x i) (e:P.underlying t=some (.struct fs.toArray)) (y:fs[i]?=some f) (d:∀w,(isAgg f.type).run P w=.ok false w)
 (b:ev L x=some (.agg cs.toArray)) (h:cs[f.offset]?=some v):MV P n L X o v :=
 MV.mk (λa=>Instr.field t (a.eval x) i) ZD8<|λa w z _=>by
  rw[z.eval b]; simp[Instr.field,Be e,y,part,d,asAgg,h]
def Fw {x:d5} {t e:d4} {p:ce} {l c:Nat} (z:o.op=.call ⟨.builtin .len,#[x],#[t]⟩) (b:P.underlying t=some (.slice e)) (y:ev L x=some (.slice p l c)):MV P n L X o (aa (l:Int)):=λa w h _=>by
 simp[execOp,z,resolve,invoke,builtin,h.eval y,Builtin.len_,Be b,Result.andThen,goInt]
def Xek {x:d5} {t:d4} {s:ByteArray} (z:o.op=.call ⟨.builtin .len,#[x],#[t]⟩) (b:P.underlying t=some .string) (y:ev L x=some (.string s)):MV P n L X o (aa (s.size:Int)):=λa w h _=>by
 simp[execOp,z,resolve,invoke,builtin,h.eval y,Builtin.len_,Be b,Result.andThen,goInt]
def mf {x:d5} {t e:d4} {p:ce} {l c:Nat} (z:o.op=.call ⟨.builtin .cap,#[x],#[t]⟩) (b:P.underlying t=some (.slice e)) (y:ev L x=some (.slice p l c)):MV P n L X o (aa (c:Int)):=λa w h _=>by
 simp[execOp,z,resolve,invoke,builtin,h.eval y,Builtin.cap_,Be b,Result.andThen,goInt]
def BU {fn:Fn} {fs cs:Array d5} {vs us:cb} (f:FuncId) (z:o.op=.makeFunc (.func f) fs cs) (y:∀a,Know n L a->fs.map a.eval=vs) (x:∀a,Know n L a->cs.map a.eval=us):MV P n L X o (.func (.func f) vs us) :=
 MV.mk (λa=>Instr.makeFunc (.func f) (fs.map a.eval)<|cs.map a.eval) bK<|λa w h _=>by
  rw[y a h,x a h]; rfl
def CG {x:d0} {y j:Nat} {c:BoundsCode} {k:d6} (w:d7) (h:x=.int k (j:Int)) (hj:j<=y):(Instr.sliceBound x y c).run P w=.ok j w:=by
 subst h;have:(0:Int)<=(j:Int)/\(j:Int)<=(y:Int):=J;simp[Instr.sliceBound,asIntOf,hj]
def DQ {t e:d4} {x lo:d5} {b off len cap sz:Nat} {k:d6} {y:Int} (l:Nat) (g:o.op=.slice t x (some lo) none none) (i:P.underlying t=some (.slice e)) (j:∀w,(sizeOf e).run P w=.ok sz w)
 (d:ev L x=some (.slice (some ⟨b,off,none⟩) len cap)) (h:ev L lo=some (.int k y)) (c:y=(l:Int)) (f:l<=len) :
 MV P n L X o (.slice (some ⟨b,off+(if cap=l then 0 else l*sz),none⟩) (len-l)<|cap-l) :=
 MV.mk (λa=>Instr.sliceAt t (a.eval x) (some<|a.eval lo) none none) (λa=>by simp[execOp,g]) (λa w z _=>by
  subst c
  rw[z.eval d,z.eval h]
  simp only[Instr.sliceAt,Instr.slice,Instr.sliceBounds,qC,Be i,qE,qD,CG (P:=P) w rfl f,j]
  by_cases he:cap=l
  .simp[he]
  .simp[he,BT])
def GY {t e:d4} {x hi:d5} {p:ce} {len cap sz:Nat} {k:d6} {z:Int} (h:Nat) (f:o.op=.slice t x none (some hi) none) (g:P.underlying t=some (.slice e)) (j:∀w,(sizeOf e).run P w=.ok sz w)
 (d:ev L x=some (.slice p len cap)) (y:ev L hi=some (.int k z)) (i:z=(h:Int)) (c:h<=cap) :
 MV P n L X o (.slice p h cap) :=
 MV.mk (λa=>Instr.sliceAt t (a.eval x) none (some<|a.eval hi) none) (λa=>by simp[execOp,f])<|λa w b _=>by
  subst i
  rw[b.eval d,b.eval y]
  simp only[Instr.sliceAt,Instr.slice,Instr.sliceBounds,qC,Be g,qE,qD,CG (P:=P) w rfl c,j]
  cases p<;>simp[Addr.add]
def C9 {t e:d4} {x hi:d5} {b off len sz:Nat} {k:d6} {z:Int} (h:Nat) (g:o.op=.slice t x none (some hi) none) (i:P.underlying t=some (.array len e)) (l:∀w,(sizeOf e).run P w=.ok sz w)
 (f:ev L x=some (.pointer<|some ⟨b,off,none⟩)) (y:ev L hi=some (.int k z)) (j:z=(h:Int)) (d:h<=len) :
 MV P n L X o (.slice (some ⟨b,off,none⟩) h len) :=
 MV.mk (λa=>Instr.sliceAt t (a.eval x) none (some<|a.eval hi) none) (λa=>by simp[execOp,g])<|λa w c _=>by
  subst j
  rw[c.eval f,c.eval y]
  simp only[Instr.sliceAt,Instr.sureAddr,Instr.sliceBounds,qC,Be i,qE,qD,CG (P:=P) w rfl d,l]
  simp[Addr.add]
def E7 {t e:d4} {x:d5} {b off len sz:Nat} (c:o.op=.slice t x none none none) (d:P.underlying t=some (.array len e)) (h:∀w,(sizeOf e).run P w=.ok sz w)
 (z:ev L x=some (.pointer<|some ⟨b,off,none⟩)) :
 MV P n L X o (.slice (some ⟨b,off,none⟩) len len) :=
 MV.mk (λa=>Instr.sliceAt t (a.eval x) none none none) ZD8<|λa w y _=>by
  rw[y.eval z]
  simp only[Instr.sliceAt,Instr.sureAddr,Instr.sliceBounds,qC,Be d,qE,qD,h]
  simp[Addr.add]
def Xb9 {t:d4} {x:d5} {b off:Nat} {v:d0} (d:o.op=.load t x) (e:∀w,(isAgg t).run P w=.ok false w) (y:ev L x=some (.pointer<|some ⟨b,off,none⟩))
 (c:∀w,X w->w.cell? ⟨b,off,none⟩=some v):MV P n L X o v :=
 MV.mk (λa=>Instr.loadAt t<|a.eval x) ZD9<|λa w h z=>by
  rw[h.eval y]; simp[Instr.loadAt,Instr.sureAddr,loadVar,e,c w z]
def Fk (b off:Nat) (w:d7):∀(m i:Nat) (vs:bi) (x:cb),vs.length=m->(∀(j:Nat) (v:d0),vs[j]?=some v->w.cell? ⟨b,off+(i+j),none⟩=some v) ->
 (loadCellsFrom ⟨b,off,none⟩ i m x).run P w=.ok (x++vs.toArray) w
 |0,i,vs,x,hl,h=>by
  have:vs=[]:=List.length_eq_zero_iff.1 hl
  subst this; simp[loadCellsFrom]
 |m+1,i,[],x,hl,h=>by simp at hl
 |m+1,i,u::vs,x,hl,h=>by
  have y:=h 0 u rfl
  rw[sf] at y
  simp only[loadCellsFrom,qC,BT]
  rw[run_load]
  simp only[y,qE]
  rw[Fk b off w m (i+1) vs _ (by simpa using hl) (λj v hj=>by
   have:=h (j+1) v<|by simpa using hj
   rwa[show off+(i+(j+1))=off+(i+1+j) from by omega] at this)]
  simp
def Xat {t:d4} {x:d5} {b off sz:Nat} {vs:bi} (y:o.op=.load t x) (g:∀w,(isAgg t).run P w=.ok true w) (f:∀w,(sizeOf t).run P w=.ok sz w) (h:ev L x=some (.pointer<|some ⟨b,off,none⟩)) (c:vs.length=sz)
 (d:∀w,X w->∀(j:Nat) (v:d0),vs[j]?=some v->w.cell? ⟨b,off+j,none⟩=some v):MV P n L X o (.agg vs.toArray) :=
 MV.mk (λa=>Instr.loadAt t<|a.eval x) (λa=>by simp[execOp,y]) (λa w z e=>by
  rw[z.eval h]
  have:=Fk (P:=P) b off w sz 0 vs #[] c (λj v hj=>by rw[qK]; exact d w e j v hj)
  simp[Instr.loadAt,Instr.sureAddr,loadVar,g,f,loadCells,this])