/- Part 8 of the proof. No condition. -/
import Derived.Test.YtloldofjddbjoaaGreatQ7
set_option linter.unusedVariables false
set_option linter.unusedSimpArgs false
set_option maxHeartbeats 8000000
set_option maxRecDepth 100000
namespace Go.Proofs.YtloldofjddbjoaaGreat
open Go.Sep Go.RowKit Tryz
variable {l:List Ca} {n i k nx nb bs j:Nat} {t set u:Int} {ord D p:List Nat} {x:HM} {c:Ca} {pr:Nat->Ans} {met:List (Int×Sv)} {ms:List (List En)} {d:List Bool} {α β:Type} {s:List (Nat×Bool)} {ls:List (List Opn)} {P:Nat->Option Ans} {M:Mo} {a b:Ms} {G:List Ent} {v vl va:Value} {w:World} {o:Opn} {pv:Kv 8} {L':Hm} {mv:Sv} {y:Operand} {e1 e2 r:List En}
theorem Sh (l:List En) (c:Ca) (hs:BG l) (hn:l.length<=1000) (hw:(Lit.int .i64 c.a.code).wf) (hck:∀e∈l,kck e.key=true) (hF:fB c=false) (hT:BH c.op=false) (hkd:c.op.kind=3):Con prog 22 [va,.agg c.c.toArray] (λw=>RdV w va En.enc l) [] (λv:Value=>.tuple #[v,.bool (Bj l c).2]) Tr (λv=>[AA v 79 En.enc (Bj l c).1]):=by
 intro w hl hH
 refine E0 func22 I hH ?_
 refine Cs I (l_e I (AT I I I I (λbc=>Ce c.c I (Las I (Ak I (Af (Cs I (Lq I (Cq (c.c) G60 Z60 0 I (lI (by rw[lE,Ca.ko];decide)) (Ca.ko _)) (l_e I (E1 (DB c) I call63 Tt (λ_ _=>Nk (Sb 9 false I (hF) (Aa I (Ae (Kt (Cs I (Lm I (Lfa U60 I Z43 I (Lq I (Cq (c.op.c) G43 Z43 0 I (Ca.op_part _) (I)) (l_e I (AZ (YP l c.op hs hn hck hT hkd) I I I call33 I hl.kp (λv _=>Lm I (Mv 2 I (l_e I (Au I I I zeroValue58 (λba=>Ce (Ans.c BC) I (Las I (l_e I (Az I I Z58 I I (Ans.ko _) (Ans.one _) (by simp only[Ans.ko];decide) (Ce (Ans.c BC) (Sep.ku (by simp only[Ans.ko])) (Ns (Do8 (rg 12) 354294 _ I St.drawn Ih (Dm I (Dfa U60 I Z3 I (Dq I (Al I G3 I (Hat 2 I) I) (Md 2 I ?_))))))))))))))))))))))))))))))))))))
 refine CB 31 I (λh2=>?_) (λh2=>?_)
 .exact Md 6 I (d_t I (e_q I I (AF I I) (AL (Kt (Ag (Pm [0,1] I (Bg (rs:=[.tmp 4,.tmp 5]) I I (λ_ h=>⟨v,by rw[FU hF (Eo hT (by omega))];exact congrArg (λz=>Ending.returned (Value.tuple #[v,.bool z])) (by first|exact JO Dt|exact JP Df),T0,by rw[FU hF (Eo hT (by omega))];exact h.drop.drop⟩))))))))
 .exact Dq I (Cq (Ans.c BC) G58 Z58 0 I (lI (by rw[lE,Ans.ko];decide)) (Ans.ko _)) (Dfa U60 I Z58 I (Dq I (Cq (c.a.c) G58 Z58 2 I (Ca.a_part _) (Ans.ko _)) (Dq I (Ls (BC) (c.a) I I I) (Md 2 I (d_t I (e_q I I (AF I I) (AL (Kt (Ag (Pm [0,1] I (Bg (rs:=[.tmp 4,.tmp 5]) I I (λ_ h=>⟨v,by rw[FU hF (Eo hT (by omega))];exact congrArg (λz=>Ending.returned (Value.tuple #[v,.bool z])) (by first|exact JO Dt|exact JP Df),T0,by rw[FU hF (Eo hT (by omega))];exact h.drop.drop⟩))))))))))))
def ED:Enc (Int×Sv):=⟨2,λp=>[.int .i64 p.1,p.2.v],λ_=>rfl,λa u h=>by simp at h;rcases h with rfl|rfl<;>rfl,by decide⟩
def RIn (G:List Ent) (v:Value) (l:List En):Prop:=(v=Cb/\l=[])\/AA v 79 En.enc l∈G
theorem RIn.rd {H:List Ent} {l:List En} {w0:World} (h:RIn G v l) (s:St w0 D H w) (hs:∀e∈G,e∈H):RdV w v En.enc l:=by
 rcases h with⟨rfl,rfl⟩|h
 .exact EI _
 .exact BU (s.hp.holds _ (hs _ h))
theorem RIn.more {G':List Ent} {l:List En} (h:RIn G v l) (hs:∀e∈G,e∈G'):RIn G' v l:=h.imp id (hs _)
def Hj (met:List (Int×Sv)) (ms:List (List En)) (set:Int) (l:List En):Bool:=(List.range met.length).any (λi=>decide ((met.getD i (0,sv0)).1=set)&&decide (ms.getD i []=l))
theorem Na {l:List En} {p:Int×Sv} (hp:met[i]?=some p) (h1:p.1=set) (h2:ms[i]?=some l):Hj met ms set l=true:=by
 unfold Hj
 rw[nk]
 refine⟨i,lQ.2 (lR.1 hp).1,?_⟩
 rw[om,om,hp,h2]
 simp[h1]
theorem YT {l:List En} (hl:ms.length=met.length) (h:∀i p e,i<met.length->met[i]?=some p->ms[i]?=some e->p.1≠set\/e≠l):Hj met ms set l=false:=by
 unfold Hj
 rw[List.any_eq_false]
 intro i hi
 have hi:=lQ.1 hi
 have h1:=h i _ _ hi (kY hi) (kY (by omega))
 rw[om,om,kY hi,kY (show i<ms.length by omega)]
 simp only[lV,mz,mS]
 rintro⟨a,b⟩
 rcases h1 with h1|h1
 .exact h1 a
 .exact h1 b
abbrev SRE (bs:Nat) (vl vm:Value):Ent:=Ad bs 196 [vl,vm,.int .i64 0]
theorem Sj {vm:Value} {m:List En} (hn:met.length<=4000000000000) (hl:ms.length=met.length) (hms:∀(i:Nat) (p:Int×Sv) (e:List En),met[i]?=some p->ms[i]?=some e->RIn G p.2.v e) (hl1:∀e∈ms,e.length<=1000) (hm:RIn G mv.v m):Con prog 153 [ptV bs,.int .i64 set,mv.v] Tr (SRE bs vl vm::AA vm 320 ED met::G) (λv:Value=>.bool (Hj met ms set m)) Tr (λv=>SRE bs vl v::AA v 320 ED (if Hj met ms set m=true then met else met++[(set,mv)])::G):=by
 intro w hE hH
 refine Ey func153 I hH (Cs I (Ak I (Af (Cs I (Ak I (Aj ?_))))))
 refine A0 (λ(i:Nat)=>[(0,ptV bs),(1,.int .i64 set),(2,mv.v),(7,.int .i64 (i:Int))]) (λ(i:Nat)=>St w (dom (SRE bs vl vm::AA vm 320 ED met::G)) (SRE bs vl vm::AA vm 320 ED met::G)) (λ(i:Nat)=>i<=met.length/\∀j p e,j<i->met[j]?=some p->ms[j]?=some e->p.1≠set\/e≠m) (λ(i:Nat)=>met.length-i) (0) ⟨lK _,λj p e h=>absurd h (ov _)⟩ (Si I) Ih (λi hq=>Af (Af ?_))
 obtain⟨hi,hno⟩:=hq
 refine Cr I (Mv 3 I (Lfa NF I Up I (Lo isAgg194 0 I (Lq I (AJ I Uq I (Hrd 1 I)) (Lq I (Ql I) (Nk (CB 14 I (λh1=>?_) (λh1=>?_))))))))
 .obtain⟨p,hp⟩:=gE met i
  obtain⟨e,he⟩:=gE ms i
  refine Ah I (Ae (Ks (Aj (Cs I (Mv 2 I (Lfa NF I Up I (Lo isAgg194 0 I (Lm I (Lq I (Ar i I Uq sizeOf320 I (Hrd 1 I) I I) (Lfa underlying320 I Z3 I (Lq I (AI i 0 I G3 I I (Hrd 1 I) hp I) (Mv 3 I (CB 27 I (λh1=>?_) (λh1=>?_))))))))))))))
  .refine Mv 2 I (Lfa NF I Up I (Lo isAgg194 0 I (Lm I (Lq I (Ar i I Uq sizeOf320 I (Hrd 1 I) I I) (Lfa underlying320 I Z49 I (Lq I (AI i 1 I G49 I I (Hrd 1 I) hp I) (Lm I (l_e I (E1 (Ln e m (hl1 e (mQ he))) I call23 (λ_ h=>⟨RIn.rd (hms i p e hp he) h (by simp_all),RIn.rd hm h (by simp_all)⟩) (λ_ _=>Lq I (Qy I) (Nk (CB 38 I (λh2=>?_) (λh2=>?_)))))))))))))
   .exact Ah I (Cs I (Ak I (Ag (As (Ac (Ac (As (Ac (Ao I I (λ_ h=>⟨vm,congrArg Eb (Na hp (by first|assumption|omega|simp_all) (by rw[he];first|rfl|(congr 1;done)|simp_all)).symm,T0,by rw[lu (Na hp (by first|assumption|omega|simp_all) (by rw[he];first|rfl|(congr 1;done)|simp_all))];exact h⟩))))))))))
   .refine Aa I (Ae (Aw (Kt (Cr I (Lm I (Lq I (Qi I) (Las I (AB ?_))))))))
    exact AE (i+1) (by omega) ⟨by omega,λj p2 e2 hj hx hb=>by
     rcases o8.1 hj with h3|rfl
     .exact hno j p2 e2 h3 hx hb
     .rw[hp] at hx;rw[he] at hb;cases hx;cases hb;first|(left;assumption)|(right;assumption)|(left;omega)|(right;simp_all)⟩ (Si I) (λ_ h=>h)
  .refine Mv 11 I (Nk (Aa I (Ae (Aw (Kt (Cr I (Lm I (Lq I (Qi I) (Las I (AB ?_))))))))))
   exact AE (i+1) (by omega) ⟨by omega,λj p2 e2 hj hx hb=>by
    rcases o8.1 hj with h3|rfl
    .exact hno j p2 e2 h3 hx hb
    .rw[hp] at hx;rw[he] at hb;cases hx;cases hb;first|(left;assumption)|(right;assumption)|(left;omega)|(right;simp_all)⟩ (Si I) (λ_ h=>h)
 .have hno2:Hj met ms set m=false:=YT hl (λj p e hj=>hno j p e (by omega))
  refine Aa I (AO (Ab (Ab (Am (Kt (Cs I (Mv 3 I (Lfa NF I Up I (Lo isAgg194 0 I (Mv 2 I (Lq I (AP (ED.f (set,mv)) I I (λw=>by kernel_rfl)) (l_e I (Ax (sz:=2) [.tmp 46] I I I I I Uq sizeOf320 I zeroValue320 (by simp[Value.cells,ED]) (λb3=>AX (l_e I (BT I I I Uq Uq ZZ I I I I I (λ_ h=>AY (h.at 1 I) ED [(set,mv)] I I) (by simp only[eN,lp,kQ,ob];omega) (by simp only[lp,kQ,ob];omega) (λv2=>AM (Av (Lc I (Lfa NF I Up I (Pre.fact (λ_ h=>BW (h.at 0 I)) ?_)))))))))))))))))))))
  rintro⟨av,cv,hv2⟩
  exact AM (l_e I (AG I I Up I I (by rw[hv2];rfl) (ng I) (Ce [vl,v2,.int .i64 0] I (Nk (Cs I (Ak I (Ag (Ao I I (λ_ h=>⟨v2,congrArg Eb hno2.symm,T0,by rw[lz (by rw[hno2];decide)];exact h⟩)))))))))
section
variable {P:Program} {n:Nat} {L:Env} {X:World->Prop} {o:Oper}
theorem jy {t u:TypeId} {x:Operand} {a b:Nat} (ho:o.op=.binOp .or t x y u) (hx:ev L x=some (.int .i64 (a:Int))) (hy:ev L y=some (.int .i64 (b:Int))) (ha:a<2^62) (hb:b<2^62):QOp P n L X o (.int .i64 ((a ||| b:Nat):Int)) :=
 CV ho hx hy (λw _=>by
  have h1:(BitVec.ofInt 64 (a:Int)).toNat=a:=by rw[BitVec.ofInt_natCast,BitVec.toNat_ofNat];omega
  have h2:(BitVec.ofInt 64 (b:Int)).toNat=b:=by rw[BitVec.ofInt_natCast,BitVec.toNat_ofNat];omega
  have h3:(BitVec.ofInt 64 (a:Int) ||| BitVec.ofInt 64 (b:Int)).toNat=a ||| b:=by rw[BitVec.toNat_or,h1,h2]
  have h4:a ||| b<2^62:=Nat.or_lt_two_pow ha hb
  have h5:IntKind.i64.wrap ((BitVec.ofInt 64 (a:Int) ||| BitVec.ofInt 64 (b:Int)).toNat:Int)=((a ||| b:Nat):Int):=by rw[h3];exact Ch (by omega)
  rw[l5,Cg]
  show (Go.Op.intBits .or .i64 (a:Int) (b:Int)).run P w=_
  unfold Go.Op.intBits
  show (pure (Value.int .i64 (IntKind.i64.wrap ((BitVec.ofInt 64 (a:Int) ||| BitVec.ofInt 64 (b:Int)).toNat:Int))):Sem Value).run P w=_
  rw[h5];rfl)
theorem gK {t u:TypeId} {x:Operand} {k:IntKind} {i:Nat} (ho:o.op=.binOp .shl t x y u) (hx:ev L x=some (.int .i64 1)) (hy:ev L y=some (.int k (i:Int))) (hi:i<=60):QOp P n L X o (.int .i64 ((2^i:Nat):Int)) :=
 CV ho hx hy (λw _=>by
  have h5:IntKind.i64.wrap (1*2^(min ((i:Int).toNat) 64))=((2^i:Nat):Int):=by
   rw[mV,mE (by omega),Int.one_mul]
   have h6:(2:Nat)^i<=2^60:=kU (by decide) hi
   obtain⟨q,hq⟩:∃q:Nat,q=2^i:=⟨_,rfl⟩
   have h7:(2:Int)^i=(q:Int):=by rw[hq];push_cast;rfl
   rw[<-hq] at h6 ⊢
   rw[h7];exact Ch (by omega)
  rw[l5,Cg]
  show (Go.Op.shift .shl .i64 1 k (i:Int)).run P w=_
  unfold Go.Op.shift
  rw[lz (show ¬(i:Int)<0 by omega)]
  show (pure (Value.int .i64 (IntKind.i64.wrap (1*2^(min ((i:Int).toNat) 64)))):Sem Value).run P w=_
  rw[h5];rfl)
end
def bits:List Bool->Nat
 |[]=>0
 |b::l=>(if b=true then 1 else 0)+2*bits l
theorem Lw:∀{a b:List Bool},a.length=b.length->bits a=bits b->a=b
 |[],[],_,_=>rfl
 |[],_::_,h,_=>by simp at h
 |_::_,[],h,_=>by simp at h
 |x::a,y::b,h,e=>by
  unfold bits at e
  have h1:x=y:=by
   cases x<;>cases y<;>first|rfl|(simp at e;omega)
  subst h1
  rw[Lw (a:=a) (b:=b) (by simpa using h) (by omega)]
theorem TV:∀(a:List Bool),bits a<2^a.length
 |[]=>by decide
 |x::a=>by
  have:=TV a
  unfold bits
  rw[kQ,Nat.pow_succ]
  split<;>omega
theorem Ot:∀(a:List Bool) (j:Nat),(bits a).testBit j=a.getD j false
 |[],j=>by simp[bits]
 |x::a,0=>by
  unfold bits
  cases x<;>simp[Nat.testBit_zero]
 |x::a,j+1=>by
  unfold bits
  rw[Nat.testBit_succ]
  have:((if x=true then 1 else 0)+2*bits a)/2=bits a:=by split<;>omega
  rw[this,Ot a j];simp
theorem cL {a:List Bool} (h:i<a.length):bits a ||| 2^i=bits (a.set i true):=by
 apply Nat.eq_of_testBit_eq
 intro j
 rw[Nat.testBit_or,Nat.testBit_two_pow,Ot,Ot,om,om,oC]
 by_cases e:i=j
 .subst e;simp[h]
 .simp[e]
inductive Comp (l:List Ca):List Bool->List En->Prop
 |over {d:List Bool} {m:List En} (h:Fy l d=true):Comp l d m
 |step {d:List Bool} {m:List En} (i:Nat) (hi:i<l.length) (hf:EC l d i=true) (hs:(Bj m (l.getD i ca0)).2=true) (h:Comp l (d.set i true) (Bj m (l.getD i ca0)).1):Comp l d m
theorem Comp.no {m:List En} (ho:Fy l d=false) (h:∀i,i<l.length->EC l d i=true->(Bj m (l.getD i ca0)).2=true->¬Comp l (d.set i true) (Bj m (l.getD i ca0)).1):¬Comp l d m:=λc=>by
 cases c with
 |over h1=>rw[ho] at h1;cases h1
 |step i hi hf hs h1=>exact h i hi hf hs h1
def jz (l:List Ca) (p:Int×Sv) (e:List En):Prop:=∀d:List Bool,d.length=l.length->((bits d:Nat):Int)=p.1->¬Comp l d e
def MetOk (l:List Ca) (met:List (Int×Sv)) (ms:List (List En)) (n:Nat):Prop:=∀(i:Nat) (p:Int×Sv) (e:List En),met[i]?=some p->ms[i]?=some e->jz l p e\/∃d:List Bool,d.length=l.length/\((bits d:Nat):Int)=p.1/\d.count true<n
def Ext (l:List Ca) (met:List (Int×Sv)) (ms:List (List En)) (met':List (Int×Sv)) (ms':List (List En)):Prop:=∀(i:Nat) (p:Int×Sv) (e:List En),met'[i]?=some p->ms'[i]?=some e->(∃j:Nat,met[j]?=some p/\ms[j]?=some e)\/jz l p e
theorem Ext.refl (l:List Ca) (met:List (Int×Sv)) (ms:List (List En)):Ext l met ms met ms:=λi _ _ h1 h2=>.inl ⟨i,h1,h2⟩
theorem Ext.trans {a b c:List (Int×Sv)} {x y z:List (List En)} (h:Ext l a x b y) (k:Ext l b y c z):Ext l a x c z:=λi p e h1 h2=>by
 rcases k i p e h1 h2 with⟨j,h3,h4⟩|h3
 .exact h j p e h3 h4
 .exact .inr h3
theorem MetOk.ext {met':List (Int×Sv)} {ms':List (List En)} (h:MetOk l met ms n) (k:Ext l met ms met' ms'):MetOk l met' ms' n:=λi p e h1 h2=>by
 rcases k i p e h1 h2 with⟨j,h3,h4⟩|h3
 .exact h j p e h3 h4
 .exact .inl h3
theorem MetOk.mono (h:MetOk l met ms n) (hk:n<=k):MetOk l met ms k:=λi p e h1 h2=>(h i p e h1 h2).imp id (fun⟨d,a,b,c⟩=>⟨d,a,b,by omega⟩)
theorem Fz {l:List α} {x y:α} (h:(l++[x])[i]?=some y):l[i]?=some y\/(i=l.length/\y=x):=by
 rw[List.getElem?_append] at h
 split at h
 .exact .inl h
 .rename_i hn
  by_cases e:i-l.length=0
  .rw[e] at h;simp at h;exact .inr ⟨by omega,h.symm⟩
  .rw[k8 (by simp;omega)] at h;cases h
theorem MetOk.own {m:List En} {v:Sv} (h:MetOk l met ms (d.count true)) (hd:d.length=l.length) (hl:ms.length=met.length):MetOk l (met++[(((bits d:Nat):Int),v)]) (ms++[m]) (d.count true+1):=λi p e h1 h2=>by
 rcases Fz h1 with h3|⟨h3,rfl⟩
 .rcases Fz h2 with h4|⟨h4,_⟩
  .exact (h.mono (oS _)) i p e h3 h4
  .have:=(lR.1 h3).1;omega
 .exact .inr ⟨d,hd,rfl,Nat.lt_succ_self _⟩
theorem Ext.own {m:List En} {v:Sv} (hd:d.length=l.length) (hl:ms.length=met.length) (hn:¬Comp l d m):Ext l met ms (met++[(((bits d:Nat):Int),v)]) (ms++[m]):=λi p e h1 h2=>by
 rcases Fz h1 with h3|⟨h3,rfl⟩
 .rcases Fz h2 with h4|⟨h4,_⟩
  .exact .inl ⟨i,h3,h4⟩
  .have:=(lR.1 h3).1;omega
 .rcases Fz h2 with h4|⟨_,rfl⟩
  .have:=(lR.1 h4).1;omega
  .refine .inr (λd' h5 h6=>?_)
   have:d'=d:=Lw (by rw[h5,hd]) (Int.ofNat.inj h6)
   rw[this];exact hn
theorem MetOk.seen {m:List En} (h:MetOk l met ms (d.count true)) (hd:d.length=l.length) (hl:ms.length=met.length) (hs:Hj met ms ((bits d:Nat):Int) m):¬Comp l d m:=by
 unfold Hj at hs
 obtain⟨i,hi,h1⟩:=nk.1 hs
 have hi:=lQ.1 hi
 obtain⟨p,hp⟩:∃p,met[i]?=some p:=⟨_,kY hi⟩
 obtain⟨e,he⟩:=gE ms i
 rw[om,om,hp,he] at h1
 simp only[lV,mz,mS] at h1
 obtain⟨h2,rfl⟩:=h1
 rcases h i p e hp he with h3|⟨d',h4,h5,h6⟩
 .exact h3 d hd h2.symm
 .have:d'=d:=Lw (by rw[h4,hd]) (by rw[h2] at h5;exact Int.ofNat.inj h5)
  rw[this] at h6;omega
theorem cM (hd:d.length=l.length) (hi:i<l.length) (h:EC l d i):d[i]?=some false:=by
 cases hx:d[i]? with
 |none=>have:=List.getElem?_eq_none_iff.1 hx;omega
 |some b=>cases b with
  |true=>rw[M8 hx] at h;cases h
  |false=>rfl
theorem Ji:∀{d:List Bool} {i:Nat},d[i]?=some false->(d.set i true).count true=d.count true+1
 |[],i,h=>by simp at h
 |x::d,0,h=>by simp at h;subst h;simp
 |x::d,i+1,h=>by
  have:=Ji (d:=d) (i:=i) (by simpa using h)
  simp only[nO,List.count_cons,this];omega
structure MapOk (m:List En) (n:Nat):Prop where
 rise:BG m
 key:∀e∈m,kck e.key=true
 len:m.length<=n
theorem MapOk.nil:MapOk [] 0:=⟨List.Pairwise.nil,λe h=>(by cases h),lJ 0⟩
theorem MapOk.mono {m:List En} (h:MapOk m n) (hk:n<=k):MapOk m k:=⟨h.rise,h.key,mf h.len hk⟩
theorem MapOk.put {m:List En} (h:MapOk m n) (o:Opn):MapOk (Bs m (mOf o)) (n+1):=by
 refine⟨El h.rise h.key (EU o),λe he=>?_,?_⟩
 .rcases Qq he with h1|h1
  .exact h.key e h1
  .exact (J4 h1).1
 .have:=Lo.lput_len m (mOf o)
  have:=h.len
  omega
theorem QH (m:List En) (c:Ca):(Bj m c).1=m\/((Bj m c).1=Bs m (mOf c.op)/\fB c=false/\BH c.op=false/\c.op.kind≠4):=by
 unfold Bj
 by_cases hF:fB c=true
 .rw[lu hF];exact .inl rfl
 .rw[lz hF]
  unfold rDo
  by_cases hT:BH c.op=true
  .rw[lu hT];exact .inl rfl
  .rw[lz hT]
   by_cases h4:c.op.kind=4
   .rw[lu h4];exact .inl rfl
   .rw[lz h4];exact .inr ⟨rfl,m9.2 hF,m9.2 hT,h4⟩
theorem MapOk.step {m:List En} (h:MapOk m n) (c:Ca):MapOk (Bj m c).1 (n+1):=by
 rcases QH m c with e|⟨e,_⟩
 .rw[e];exact h.mono (oS n)
 .rw[e];exact h.put c.op
structure YU (c:Ca):Prop where
 code:(Lit.int .i64 c.a.code).wf=true
 kind:c.op.kind=1\/c.op.kind=2\/c.op.kind=3\/c.op.kind=4
def Bn (n:Nat):Nat->Nat
 |0=>1
 |k+1=>1+n*Bn n k
theorem gL {l:List En} (h:(AA v 79 En.enc l).at w):∃s:Sv,v=s.v:=by
 obtain⟨a,c,e⟩:=BW h
 exact⟨⟨a,l.length,c⟩,e⟩
theorem Nb (l:List En) (c:Ca) (hm:MapOk l 1000) (hc:YU c):Con prog 22 [mv.v,.agg c.c.toArray] (λw=>RdV w mv.v En.enc l) [] (λr:Sv×List Ent=>.tuple #[r.1.v,.bool (Bj l c).2]) (λr=>(r=(mv,[])/\(Bj l c).1=l)\/r.2=[AA r.1.v 79 En.enc (Bj l c).1]) (λr=>r.2):=λw he hh=>by
 have put:∀{e:Ending} {w':World} {v:Value},e=.returned (.tuple #[v,.bool (Bj l c).2])->St w (dom []) [AA v 79 En.enc (Bj l c).1] w'->∃r:Sv×List Ent,e=.returned (.tuple #[r.1.v,.bool (Bj l c).2])/\((r=(mv,[])/\(Bj l c).1=l)\/r.2=[AA r.1.v 79 En.enc (Bj l c).1])/\St w (dom []) r.2 w':=λh1 h3=>by
  obtain⟨s,rfl⟩:=gL (h3.at 0 rfl)
  exact⟨(s,[AA s.v 79 En.enc (Bj l c).1]),h1,.inr rfl,h3⟩
 by_cases hF:fB c=true
 .exact (Sd l c hm.rise hm.len hF w he hh).mono (λe w' ⟨_,h1,_,h3⟩=>⟨(mv,[]),h1,.inl ⟨rfl,by rw[YS hF]⟩,h3⟩)
 have hF:=m9.2 hF
 by_cases hT:BH c.op=true
 .exact (VH l c hm.rise hm.len hc.code hF hT w he hh).mono (λe w' ⟨_,h1,_,h3⟩=>⟨(mv,[]),h1,.inl ⟨rfl,by rw[FU hF (Sa hT)]⟩,h3⟩)
 have hT:=m9.2 hT
 rcases hc.kind with hk|hk|hk|hk
 .exact (Se l c hm.rise hm.len hc.code hm.key hF hT hk w he hh).mono (λe w' ⟨v,h1,_,h3⟩=>put h1 h3)
 .exact (Sg l c hm.rise hm.len hc.code hm.key hF hT hk w he hh).mono (λe w' ⟨v,h1,_,h3⟩=>put h1 h3)
 .exact (Sh l c hm.rise hm.len hc.code hm.key hF hT hk w he hh).mono (λe w' ⟨v,h1,_,h3⟩=>put h1 h3)
 .exact (VI l c hm.rise hm.len hc.code hF hT hk w he hh).mono (λe w' ⟨_,h1,_,h3⟩=>⟨(mv,[]),h1,.inl ⟨rfl,by rw[FU hF (Lu hT hk)]⟩,h3⟩)
def Fn:Nat->Nat
 |0=>1
 |k+1=>1+(k+1)*Fn k
theorem TW (h:1<=k):Fn k=1+k*Fn (k-1):=by
 cases k with
 |zero=>omega
 |succ k=>rfl
theorem jA (h:k<=12):Fn k<=1302061345:=by
 have:∀j,j<=12->Fn j<=1302061345:=by decide
 exact this k h
theorem Lx:∀{d:List Bool} {i:Nat},d[i]?=some false->(d.set i true).count false+1=d.count false
 |[],i,h=>by simp at h
 |x::d,0,h=>by simp at h;subst h;simp
 |x::d,i+1,h=>by
  have:=Lx (d:=d) (i:=i) (by simpa using h)
  simp only[nO,List.count_cons];omega
theorem Ly {b:Bool} (h:d[i]?=some b):(d.take (i+1)).count false=(d.take i).count false+(if b=false then 1 else 0):=by
 rw[nT,h,List.count_append]
 cases b<;>rfl
theorem QI (d:List Bool) (i:Nat):(d.take i).count false<=d.count false:=(pj i d).count_le false
theorem cN (hd:d.length=l.length) (h:Fy l d=false):1<=d.count false:=by
 refine pA (λh0=>?_)
 have h1:d.count false=0:=by omega
 have h2:∀b∈d,b=true:=λb hb=>by
  cases b with
  |true=>rfl
  |false=>exact absurd hb (List.count_eq_zero.1 h1)
 have:Fy l d=true:=by
  unfold Fy
  rw[np]
  intro i hi
  have hi:=lQ.1 hi
  have e:d[i]?=some (d[i]'(by omega)):=kY (by omega)
  rw[om (l:=d),e,lV,h2 _ (k7 _),pz]
 rw[this] at h;cases h
inductive CompO (l:List Ca):List Bool->List En->List Nat->Prop
 |over {d:List Bool} {m:List En} (h:Fy l d=true):CompO l d m []
 |step {d:List Bool} {m:List En} {ks:List Nat} (i:Nat) (hi:i<l.length) (hf:EC l d i=true) (hs:(Bj m (l.getD i ca0)).2=true) (h:CompO l (d.set i true) (Bj m (l.getD i ca0)).1 ks):CompO l d m (i::ks)
structure FR where
 vo:Value
 ok:Bool
 vm:Value
 met:List (Int×Sv)
 ms:List (List En)
 X:List Ent
 ord:List Nat
structure kj (l:List Ca) (d:List Bool) (m:List En) (met:List (Int×Sv)) (ms:List (List En)) (G:List Ent) (r:FR):Prop where
 len:r.ms.length=r.met.length
 rin:∀(i:Nat) (p:Int×Sv) (e:List En),r.met[i]?=some p->r.ms[i]?=some e->RIn (r.X++G) p.2.v e
 le:∀e∈r.ms,e.length<=1000
 many:r.met.length<=met.length+Fn (d.count false)
 ord:r.ord.length<=d.count false
 yes:r.ok=true->CompO l d m r.ord
 no:r.ok=false->¬Comp l d m/\Ext l met ms r.met r.ms
structure gM (l:List Ca) (d:List Bool) (m:List En) (mv:Sv) (vl vd:Value) (met:List (Int×Sv)) (ms:List (List En)) (G:List Ent):Prop where
 n12:l.length<=12
 ca:∀c∈l,YU c
 dl:d.length=l.length
 rl:AA vl 60 Ca.enc l∈G
 rd:AA vd 4 FB d∈G
 rm:RIn G mv.v m
 mo:MapOk m (d.count true)
 ml:ms.length=met.length
 rin:∀(i:Nat) (p:Int×Sv) (e:List En),met[i]?=some p->ms[i]?=some e->RIn G p.2.v e
 le:∀e∈ms,e.length<=1000
 ok:MetOk l met ms (d.count true)
 bd:met.length+Fn (d.count false)<=4000000000000
abbrev FRH (bs:Nat) (vl:Value) (G:List Ent) (r:FR):List Ent:=SRE bs vl r.vm::AA r.vm 320 ED r.met::AA r.vo 3 (AH .i64) (nI2 r.ord)::(r.X++G)
theorem GJ {w0:World} {H:List Ent} {t:TypeId} {E:Enc α} {l:List α} (h:St w0 D H w) (hm:AA v t E l∈G) (hs:∀e∈G,e∈H):RdV w v E l:=BU (h.hp.holds _ (hs _ hm))
theorem Sk:∀(k:Nat) (d:List Bool) (m:List En) (mv:Sv) (vd vm:Value) (met:List (Int×Sv)) (ms:List (List En)) (G:List Ent),d.count false=k->gM l d m mv vl vd met ms G->Con prog 96 [ptV bs,vd,.int .i64 ((bits d:Nat):Int),mv.v] Tr (SRE bs vl vm::AA vm 320 ED met::G) (λr:FR=>.tuple #[r.vo,.bool r.ok]) (kj l d m met ms G) (FRH bs vl G):=by
 intro k;refine Nat.strongRecOn k ?_;intro k ih d m mv vd vm met ms G hkk hI
 have hdl2:d.length<=12:=by rw[hI.dl];exact hI.n12
 have hn12:=hI.n12
 have hbit:bits d<4096:=nC (TV d) (kU (by decide) hdl2:2^d.length<=2^12)
 have hdl:=hI.dl
 intro w hE hH
 refine Ey func96 I hH (Cs I (Las I (Ak I (Af (Cs I (Mv 2 I (Lfa NF I sizeOf36 I (Lo isAgg36 0 I (Lm I (l_e I (E1 (R8 l d (by have:=hI.n12;omega) hI.dl) I call152 (λ_ h=>⟨GJ h hI.rl (by simp_all),GJ h hI.rd (by simp_all)⟩) (λ_ _=>Nk (Pre.caseB 21 I (λhov=>?_) (λhov=>?_))))))))))))))
 .exact Ah I (Cs I (Las I (Ak I (Ag (Ac (row0 3 (AH .i64) none (Pm [1,1] I (Bg (rs:=[.tmp 8,.tmp 9]) I I (λ_ h=>⟨(⟨Cb,true,vm,met,ms,[],[]⟩:FR),rfl,⟨hI.ml,hI.rin,hI.le,pF _ _,lK _,λ_=>.over hov,λh=>by cases h⟩,h⟩)))))))))
 .have hk1:=cN hI.dl hov
  refine Aa I (Ae (Ks (Cs I (Mv 3 I (l_e I (Ee [] (Sj (bs:=bs) (vl:=vl) (vm:=vm) (set:=((bits d:Nat):Int)) (by have:=hI.bd;omega) hI.ml hI.rin hI.le hI.rm) I call153 Tt ?_))))))
  intro v1 _
  cases hs:Hj met ms ((bits d:Nat):Int) m
  .rw[lz pt]
   refine Pw (St _ _ (SRE bs vl v1::AA v1 320 ED (met++[(((bits d:Nat):Int),mv)])::G)) ?_
   refine Nk (Aa I (Ae (Ks (Cs I (Ak I (Aj ?_))))))
   have hown:=hI.ok.own (m:=m) (v:=mv) hI.dl hI.ml
   refine SJ (λ(i:Nat) (v2:Value) (met2:List (Int×Sv)) (ms2:List (List En)) (X:List Ent)=>[(0,ptV bs),(1,vd),(2,.int .i64 ((bits d:Nat):Int)),(3,mv.v),(10,.int .i64 (i:Int))]) (λ(i:Nat) (v2:Value) (met2:List (Int×Sv)) (ms2:List (List En)) (X:List Ent)=>St w (dom (SRE bs vl vm::AA vm 320 ED met::G)) (SRE bs vl v2::AA v2 320 ED met2::(X++G))) (λ(i:Nat) (v2:Value) (met2:List (Int×Sv)) (ms2:List (List En)) (X:List Ent)=>i<=l.length/\ms2.length=met2.length/\(∀(i:Nat) (p:Int×Sv) (e:List En),met2[i]?=some p->ms2[i]?=some e->RIn (X++G) p.2.v e)/\(∀e∈ms2,e.length<=1000)/\met2.length<=met.length+1+(d.take i).count false*Fn (d.count false-1)/\Ext l (met++[(((bits d:Nat):Int),mv)]) (ms++[m]) met2 ms2/\∀j,j<i->EC l d j=true->(Bj m (l.getD j ca0)).2=true->¬Comp l (d.set j true) (Bj m (l.getD j ca0)).1) (λ(i:Nat) (v2:Value) (met2:List (Int×Sv)) (ms2:List (List En)) (X:List Ent)=>l.length-i) (0) (v1) ((met++[(((bits d:Nat):Int),mv)])) ((ms++[m])) ([]) ⟨lK _,by rw[lp,lp,hI.ml];rfl,λa b e h1 h2=>by
    rcases Fz h1 with h3|⟨h3,rfl⟩
    .rcases Fz h2 with h4|⟨h4,_⟩
     .exact hI.rin a b e h3 h4
     .have:=(lR.1 h3).1;have:=hI.ml;omega
    .rcases Fz h2 with h4|⟨_,rfl⟩
     .have:=(lR.1 h4).1;have:=hI.ml;omega
     .exact hI.rm,λe he=>by
    rcases mT.1 he with h1|h1
    .exact hI.le e h1
    .simp only[nq] at h1;subst h1;have:=hI.mo.len;have:=pG (a:=true) (l:=d);omega,by simp,Ext.refl _ _ _,λj hj=>absurd hj (ov _)⟩ (Si I) (λ_ h=>h) ?_
   intro i v2 met2 ms2 X hp
   refine Af (Af ?_)
   obtain⟨hi,hml2,hrin2,hle2,hmany,hext,hno⟩:=hp
   refine Cr I (Mv 3 I (Lfa NF I sizeOf36 I (Lo isAgg36 0 I (Lq I (AJ I U36 I (λ_ h=>GJ h hI.rl (by simp_all))) (Lq I (Ql I) (Nk (CB 32 I (λh1=>?_) (λh1=>?_))))))))
   .obtain⟨c,hx⟩:=gE l i
    obtain⟨db,hdb⟩:∃b,d[i]?=some b:=⟨_,kY (by rw[hI.dl];omega)⟩
    have hcd:l.getD i ca0=c:=by rw[om,hx];rfl
    refine Ah I (Ae (Ks (Aj (Af (Cs I (Mv 2 I (Lfa NF I sizeOf36 I (Lo isAgg36 0 I (Mv 2 I (l_e I (E1 (R9 l d i (by omega) (by have:=hI.n12;omega) hI.dl) I call154 (λ_ h=>⟨GJ h hI.rl (by simp_all),GJ h hI.rd (by simp_all)⟩) (λ_ _=>Lq I (Qt I) (Nk (CB 42 I (λhfr=>?_) (λhfr=>?_)))))))))))))))
    .refine Ah I (AO (Ab (Am (Kt (Cr I (Lm I (Lq I (Qi I) (Las I (AB ?_)))))))))
     exact AE ((i+1,v2,met2,ms2,X)) (by dsimp only;omega) ⟨by dsimp only;omega,hml2,hrin2,hle2,(by dsimp only;refine mf hmany (Nat.add_le_add_left (lW _ ?_) _);rw[Ly hdb];exact pF _ _),hext,λj hj hf hs=>by
      rcases o8.1 hj with h3|rfl
      .exact hno j h3 hf hs
      .rw[hfr] at hf;cases hf⟩ (Si I) (λ_ h=>h)
    .refine Aa I (Ae (Kt (Cs I (Mv 3 I (Lfa NF I sizeOf36 I (Lo isAgg36 0 I (Lm I (Lq I (Ar i I U36 Z60 I (λ_ h=>GJ h hI.rl (by simp_all)) I I) (Lq I (AV i I G60 Z60 I I (λ_ h=>GJ h hI.rl (by simp_all)) hx) (l_e I ?_))))))))))
     have hrm2:RIn (X++G) mv.v m:=hI.rm.more (λe he=>nK _ he)
     refine BV (Nb m c (hI.mo.mono (by have:=hI.n12;have:=pG (a:=true) (l:=d);have:=hI.dl;omega)) (hI.ca c (mQ hx))) I I I call22 I (λ_ h=>hrm2.rd h (by simp_all)) ?_
     rintro r hr
     refine Pre.world (St _ _ (SRE bs vl v2::AA v2 320 ED met2::((r.2++X)++G))) (λ_ h=>h.perm (oa.trans ((oa.trans (by rw[mj])).cons _))) ?_
     refine Mv 4 I (Ak I (Af (Cs I (Mv 2 I (Nk ?_)))))
     have hrin3:∀(i:Nat) (p:Int×Sv) (e:List En),met2[i]?=some p->ms2[i]?=some e->RIn ((r.2++X)++G) p.2.v e:=λa b e h1 h2=>(hrin2 a b e h1 h2).more (λz hz=>by rw[mj];exact nK _ hz)
     refine CB 56 I (λhsk=>?_) (λhsk=>?_)
     .refine Ah I (AO (Ab (Am (Kt (Cr I (Lm I (Lq I (Qi I) (Las I (AB ?_)))))))))
      exact AE ((i+1,v2,met2,ms2,(r.2++X))) (by dsimp only;omega) ⟨by dsimp only;omega,hml2,hrin3,hle2,(by dsimp only;refine mf hmany (Nat.add_le_add_left (lW _ ?_) _);rw[Ly hdb];exact pF _ _),hext,λj hj hf hs=>by
       rcases o8.1 hj with h3|rfl
       .exact hno j h3 hf hs
       .rw[hcd,hsk] at hs;cases hs⟩ (Si I) (λ_ h=>h)
     .refine Aa I (Ae (Kt (Cs I ?_)))
      have hpi:2^i<=4096:=(kU (by decide) (by omega:i<=12):2^i<=2^12)
      have hdi:=cM hI.dl (by omega) hfr
      refine l_e I (Ax (sz:=1) [] I I I I I Gh Z4 I zeroValue4 I (λb=>rowLit FB [] I I (Lm I (l_e I (Ap Gh Gh SN I (λ_ h=>GJ h hI.rd (by simp_all)) (by simp only[lp,kQ,ob];omega) (λvc=>Ak I (Af ?_)))))))
      rw[mw]
      refine Cr I (Mv 2 I (Lq I (Ar i I Gh Z4 I (Hrd 0 I) I I) (l_e I (Ct i 0 (true) I I Z4 I I I hdi (by decide) I (Nk (Cs I (Mv 4 I (Lq I (Bu I U3 Wg I (E4)) (Lq I (gK I I I (by omega)) (Lq I (jy I I I (by omega) (by omega)) (Lm I (Sv' 70 (.int .i64 ((bits (d.set i true):Nat):Int)) I (by rw[cL (by omega)]) (Pm [1,1] I ?_)))))))))))))
      have hni:RIn ((r.2++X)++G) r.1.v (Bj m c).1:=by
       rcases hr with⟨rfl,e⟩|e
       .rw[e];exact hrm2.more (λz hz=>hz)
       .exact .inr (by rw[e];simp)
      have hcs:=Lx hdi
      have hct:(d.take (i+1)).count false=(d.take i).count false+1:=by rw[Ly hdi];rfl
      have hcl:=QI d (i+1)
      have hF:Fn (d.count false)=1+d.count false*Fn (d.count false-1):=TW hk1
      have hcs2:((d.set i true)).count false=d.count false-1:=by omega
      have hmul:((d.take i).count false+1)*Fn (d.count false-1)<=d.count false*Fn (d.count false-1):=lW _ (by omega)
      have hmul2:((d.take i).count false+1)*Fn (d.count false-1)=(d.take i).count false*Fn (d.count false-1)+Fn (d.count false-1):=Nat.succ_mul _ _
      have hbd2:met2.length+Fn (((d.set i true)).count false)<=4000000000000:=by have:=hI.bd;rw[hcs2];omega
      have hI2:gM l (d.set i true) (Bj m c).1 r.1 vl vc met2 ms2 (AA vc 4 FB (d.set i true)::((r.2++X)++G)):=⟨hI.n12,hI.ca,by rw[nU];exact hI.dl,nG _ (nK _ hI.rl),ns ..,hni.more (λz hz=>nG _ hz),by rw[Ji hdi];exact hI.mo.step c,hml2,λa b e h1 h2=>(hrin3 a b e h1 h2).more (λz hz=>nG _ hz),hle2,by rw[Ji hdi];exact hown.ext hext,hbd2⟩
      refine l_e I (Ee [] (ih (d.count false-1) (by omega) (d.set i true) (Bj m c).1 r.1 vc v2 met2 ms2 (AA vc 4 FB (d.set i true)::((r.2++X)++G)) hcs2 hI2) I call96 Tt (λq hq=>Pw (St _ _ (SRE bs vl q.vm::AA q.vm 320 ED q.met::AA q.vo 3 (AH .i64) (nI2 q.ord)::(q.X++(AA vc 4 FB (d.set i true)::((r.2++X)++G))))) (Mv 4 I (Ak I (Cs I (Lm I (Nk ?_)))))))
      have hol:(nI2 q.ord).length<=12:=by unfold nI2;rw[mB];have:=hq.ord;have:=pG (a:=false) (l:=d);omega
      have hmny:q.met.length<=met.length+1+((d.take (i+1)).count false)*Fn (d.count false-1):=by have h1:=hq.many;rw[hcs2] at h1;rw[hct,hmul2];omega
      refine Pre.caseB 75 I (λhok=>?_) (λhok=>?_)
      .exact Ah I (Cs I (Lm I (l_e I (Ax (sz:=1) [.tmp 76] I I I I I U22 Z3 I zeroValue3 I (λb2=>rowLit (AH .i64) [((i:Nat):Int)] I I (Lm I (l_e I (Ap U22 U22 EA I (Hrd 3 I) (by simp only[lp,kQ,ob];omega) (λv3=>Las I (Ak I (Ag (As (Ac (Ac (As (Ac (D3 (Av (Pm [1,1] I (Bg (rs:=[.tmp 8,.tmp 9]) I I (λ_ h=>⟨(⟨v3,true,q.vm,q.met,q.ms,q.X++AA vc 4 FB (d.set i true)::(r.2++X),i::q.ord⟩:FR),rfl,⟨hq.len,λa b e h1 h2=>by rw[mj];exact hq.rin a b e h1 h2,hq.le,by have h3:=hmny;have:=hmul;rw[hct] at h3;show q.met.length<=_;omega,by show (i::q.ord).length<=_;have:=hq.ord;rw[kQ];omega,λ_=>.step i (by omega) hfr (by rw[hcd];exact hsk) (by rw[hcd];exact hq.yes hok),λh=>by cases h⟩,by show St _ _ (SRE bs vl q.vm::AA q.vm 320 ED q.met::AA v3 3 (AH .i64) (nI2 (i::q.ord))::((q.X++AA vc 4 FB (d.set i true)::(r.2++X))++G)) _;rw[mj];exact h⟩)))))))))))))))))))))
      .refine Aa I (Ae (Aw (Kt (Cr I (Lm I (Lq I (Qi I) (Las I (AB (AX (Av ?_))))))))))
       exact AE ((i+1,q.vm,q.met,q.ms,q.X++AA vc 4 FB (d.set i true)::(r.2++X))) (by dsimp only;omega) ⟨by dsimp only;omega,hq.len,λa b e h1 h2=>by dsimp only;rw[mj];exact hq.rin a b e h1 h2,hq.le,hmny,hext.trans (hq.no hok).2,λj hj hf hs=>by
        rcases o8.1 hj with h3|rfl
        .exact hno j h3 hf hs
        .rw[hcd];exact (hq.no hok).1⟩ (Si I) (λ_ h=>by dsimp only;rw[mj];exact h)
   .have hil:i=l.length:=by omega
    have hnc:¬Comp l d m:=Comp.no hov (λj hj hf hs=>hno j (by omega) hf hs)
    have hF:Fn (d.count false)=1+d.count false*Fn (d.count false-1):=TW hk1
    have hmul:=lW (Fn (d.count false-1)) (QI d i)
    exact Aa I (AO (Ab (Ab (Am (Kt (Cs I (Las I (Ak I (Ag (row0 3 (AH .i64) none (Pm [1,1] I (Bg (rs:=[.tmp 8,.tmp 9]) I I (λ_ h=>⟨(⟨Cb,false,v2,met2,ms2,X,[]⟩:FR),rfl,⟨hml2,hrin2,hle2,by show met2.length<=_;omega,lK _,(λh=>by cases h),λ_=>⟨hnc,(Ext.own hI.dl hI.ml hnc).trans hext⟩⟩,h⟩)))))))))))))
  .rw[lu rfl]
   refine Pw (St _ _ (SRE bs vl v1::AA v1 320 ED met::G)) ?_
   exact Nk (Ah I (Cs I (Las I (Ak I (Ag (Ac (row0 3 (AH .i64) none (Pm [1,1] I (Bg (rs:=[.tmp 8,.tmp 9]) I I (λ_ h=>⟨(⟨Cb,false,v1,met,ms,[],[]⟩:FR),rfl,⟨hI.ml,hI.rin,hI.le,pF _ _,lK _,(λh=>by cases h),λ_=>⟨hI.ok.seen hI.dl hI.ml hs,Ext.refl _ _ _⟩⟩,h⟩))))))))))
theorem QJ:∀n,bits (List.replicate n false)=0
 |0=>rfl
 |n+1=>by rw[lC];unfold bits;rw[QJ n];rfl
structure FdR where
 v:Value
 ok:Bool
 ord:List Nat
theorem cP {vd:Value} (h12:l.length<=12) (hc:∀c∈l,YU c):gM l (List.replicate l.length false) [] sv0 vl vd [] [] [AA vd 4 FB (List.replicate l.length false),AA vl 60 Ca.enc l]:=by
 have hcl:=pG (a:=false) (l:=List.replicate l.length false)
 rw[oy] at hcl
 refine⟨h12,hc,oy ..,by simp,by simp,.inl ⟨rfl,rfl⟩,MapOk.nil.mono (lK _),rfl,(λi p e h=>by simp at h),(λe h=>by cases h),(λi p e h=>by simp at h),?_⟩
 have:=jA (mf hcl h12)
 show 0+Fn _<=_
 omega
theorem QK (l:List Ca) (h12:l.length<=12) (hc:∀c∈l,YU c):Con prog 46 [vl] Tr [AA vl 60 Ca.enc l] (λr:FdR=>.tuple #[r.v,.bool r.ok]) (λr=>(r.ok=false->¬Comp l (List.replicate l.length false) [])/\(r.ok=true->CompO l (List.replicate l.length false) [] r.ord)/\r.ord.length<=l.length) (λr=>[AA r.v 3 (AH .i64) (nI2 r.ord),AA vl 60 Ca.enc l]):=by
 intro w hE hH
 refine Ey func46 I hH (Cs I (Las I (Ak I (Af (Cs I (Lm I (Lq I (AJ I U36 I (Hrd 0 I)) (Lq I (BQ I I I) (Nk (Sf 7 I (by omega) (Aa I (Ae (Kt (Cs I (Lm I (Pre.fact (λ_ h=>BW (h.at 0 I)) ?_))))))))))))))))
 rintro⟨a1,c2,rfl⟩
 refine Lq I (AP ([(.slice a1 l.length c2),.slice none 0 0,.int .i64 0]) I I (λw=>by kernel_rfl)) (l_e I (AT I I I I (λbs=>Ce [(.slice a1 l.length c2),.slice none 0 0,.int .i64 0] I (Ak I (Cs I (Mv 2 I (Lq I (AJ I U36 I (Hrd 1 I)) (l_e I (BR FB false l.length I I I Gh SN I I I I I I I (by simp only[eI];omega) (by omega) (λvd=>row0 320 ED none (Pm [2] I ?_)))))))))))
 have hf:=Sk (l:=l) (bs:=bs) (vl:=(.slice a1 l.length c2)) _ _ _ _ _ (.slice none 0 0) _ _ _ rfl (cP (vd:=vd) h12 hc)
 rw[QJ] at hf
 refine l_e I (Ee [] hf I call96 Tt (λq hq=>Pre.world (St w _ [AA q.vo 3 (AH .i64) (nI2 q.ord),AA (.slice a1 l.length c2) 60 Ca.enc l]) (λ_ h=>h.sublist (.cons _ (.cons _ (.cons_cons _ (List.Sublist.trans (.cons _ (oW _)) (pq q.X _)))))) ?_))
 exact Mv 3 I (Ak I (Ag (Bg (rs:=[.tmp 2,.tmp 3]) I I (λ_ h=>⟨(⟨q.vo,q.ok,q.ord⟩:FdR),rfl,⟨λe=>(hq.no e).1,hq.yes,by have h1:=hq.ord;have h2:=pG (a:=false) (l:=List.replicate l.length false);rw[oy] at h2;exact mf h1 h2⟩,h⟩))))
structure CfR where
 nb:Nat
 nf:Nat
 fl:Nat
 n:Nat
 b:OpsR
structure CfOk (m:Nat) (r:CfR):Prop where
 n1:1<=r.n
 n4:r.n<=4
 f3:r.fl<=3
 nf1:4*(r.n+r.fl)+1<=r.nf
 nf2:r.nf<=4*(r.n+r.fl)+8
 nb1:1<=r.nb
 nb2:r.nb<=64
 len:r.b.o0.length+r.b.o1.length+r.b.o2.length+r.b.o3.length<=m
 ok:∀o,o∈r.b.o0\/o∈r.b.o1\/o∈r.b.o2\/o∈r.b.o3->OpG o
abbrev OpsR.H (b:OpsR) (n:Nat):List Ent:=[AA b.vo 40 C6 (b.vs n),AA b.q0.v 43 Opn.enc b.o0,AA b.q1.v 43 Opn.enc b.o1,AA b.q2.v 43 Opn.enc b.o2,AA b.q3.v 43 Opn.enc b.o3]
abbrev cfC (nb nf fl:Nat) (vo:Value):List Value:=[.int .i64 (nb:Int),.int .i64 (nf:Int),.int .i64 (fl:Int),vo]
theorem YV (x y z:Int) (a:Option Addr) (n c:Nat) (w:World):(Instr.build 27 #[(2,.int .i64 x),(1,.int .i64 y),(0,.int .i64 z),(3,.slice a n c)]).run prog w=.ok (.agg ([.int .i64 z,.int .i64 y,.int .i64 x,.slice a n c]:List Value).toArray) w:=by kernel_rfl
theorem Jj (nb nf fl:Nat) (a:Option Addr) (m c:Nat):∀v∈cfC nb nf fl (.slice a m c),v.oneCell'=true:=λv hv=>by
 simp only[cfC,kN,nt,nu] at hv
 rcases hv with rfl|rfl|rfl|rfl<;>rfl
theorem OpsR.vlen (b:OpsR) {n:Nat} (h:n<=4):(b.vs n).length=n:=by unfold OpsR.vs;rw[k9];exact mE h
theorem cQ (v:Int) (l:List Int):Con prog 24 [.int .i64 v,va] (λw=>RdV w va (AH .i64) l) [] (λr:CfR=>.agg (cfC r.nb r.nf r.fl r.b.vo).toArray) (λr=>CfOk l.length r) (λr=>r.b.H r.n):=by
 intro w hl hH
 refine E0 func24 I hH (Cs I (l_e I (Au I I I zeroValue27 (λbr=>Ce [.int .i64 0,.int .i64 0,.int .i64 0,.slice none 0 0] I (Nk (Cs I (Lm I (l_e I (E1 (FT v 1073741824 (by decide) (by decide)) I call27 Tt (λ_ _=>Ak I (Af ?_)))))))))))
 obtain⟨k,hk,hkb⟩:∃k:Nat,v%1073741824=(k:Int)/\k<1073741824:=⟨(v%1073741824).toNat,by omega,by omega⟩
 refine Sv' 5 (.int .i64 (k:Int)) I (by rw[hk]) ?_
 obtain⟨n,hn⟩:∃n:Nat,n=1+k%4:=⟨_,rfl⟩
 obtain⟨f,hf⟩:∃f:Nat,f=k/4%4:=⟨_,rfl⟩
 obtain⟨nf,hnf⟩:∃m:Nat,m=4*(n+f)+1+k/16%8:=⟨_,rfl⟩
 obtain⟨nb,hnb⟩:∃m:Nat,m=1+k/128%12:=⟨_,rfl⟩
 refine Cr I (Lm I (Lq I (Bm I I I) (Lq I (Bh I I I) (Lm I (Lq I (By I I I) (Lq I (Bm I I I) (Las I (Ak I (Af (Sv' 6 (.int .i64 (n:Int)) I (congrArg (Value.int .i64) (by rw[hn];omega)) (Sv' 7 (.int .i64 (f:Int)) I (congrArg (Value.int .i64) (by rw[hf];omega)) (Cr I (Mv 3 I (Lq I (Bh I I I) (Lq I (GN I I I) (Lq I (Bh I I I) (Lm I (Lq I (By I I I) (Lq I (Bm I I I) (Lq I (Bh I I I) (Lm I ?_)))))))))))))))))))))
 refine Lq I (By I I I) (Lq I (Bm I I I) (Lq I (Bh I I I) (Mv 2 I (Sv' 17 (.int .i64 (f:Int)) I (I) (Sv' 26 (.int .i64 (nf:Int)) I (congrArg (Value.int .i64) (by omega)) (Sv' 30 (.int .i64 (nb:Int)) I (congrArg (Value.int .i64) (by omega)) (l_e I (BV (YM l n (by omega) (by omega)) I I I call25 I hl.kp ?_))))))))
 rintro b ⟨hb1,hb2⟩
 refine Pw (St w [] (b.H n++[Ad br 27 [.int .i64 0,.int .i64 0,.int .i64 0,.slice none 0 0]])) ?_
 refine Pre.fact (λ_ h=>BW (h.at 0 I)) ?_
 rintro⟨va2,vc2,hvo⟩
 refine Lq I (AP (cfC nb nf f b.vo) I I (λw=>(by rw[hvo];exact YV _ _ _ _ _ _ _))) (l_e I (Au I I I zeroValue27 (λbc=>Ce [.int .i64 0,.int .i64 0,.int .i64 0,.slice none 0 0] I ?_)))
 have hone:∀v∈cfC nb nf f b.vo,v.oneCell'=true:=by rw[hvo];exact Jj _ _ _ _ _ _
 refine l_e I (SA Z27 I hone (Ce (cfC nb nf f b.vo) I (Ns (Cs I (Lm I (Lq I (By I I I) (Lq I (Bm I I I) (Lq I (BQ I I I) (Nk (CB 38 I (λhbl=>?_) (λhbl=>?_)))))))))))
 .refine Ah I (Cr I (Lfa U27 I Z3 I (l_e I (AG I I Z3 I I I (ng I) (Ce (cfC 64 nf f b.vo) I (Nk (Cs I (Lq I (Cq _ G27 Z27 0 I I I) ?_))))))))
  have hone2:∀v∈cfC (64) nf f b.vo,v.oneCell'=true:=by rw[hvo];exact Jj _ _ _ _ _ _
  refine Ed (l_e I (SA Z27 I hone2 (Ce (cfC (64) nf f b.vo) I (Nk (Ag ?_)))))
  have hfin:CfOk l.length (⟨64,nf,f,n,b⟩:CfR):=⟨by show 1<=n;omega,by show n<=4;omega,by show f<=3;omega,by show 4*(n+f)+1<=nf;omega,by show nf<=4*(n+f)+8;omega,by show 1<=64;omega,by show 64<=64;omega,hb1,hb2⟩
  exact Pm [2,2,2,2,2,1] I (CJ I (AK I G27 Z27 (Hat 6 I) (I)) (λ_ h=>⟨(⟨64,nf,f,n,b⟩:CfR),rfl,hfin,h.cut⟩))
 .refine Aa I (Ae (Kt (Cs I (Lq I (Cq _ G27 Z27 0 I I I) ?_))))
  have hone2:∀v∈cfC (nb) nf f b.vo,v.oneCell'=true:=by rw[hvo];exact Jj _ _ _ _ _ _
  refine Ed (l_e I (SA Z27 I hone2 (Ce (cfC (nb) nf f b.vo) I (Nk (Ag ?_)))))
  have hfin:CfOk l.length (⟨nb,nf,f,n,b⟩:CfR):=⟨by show 1<=n;omega,by show n<=4;omega,by show f<=3;omega,by show 4*(n+f)+1<=nf;omega,by show nf<=4*(n+f)+8;omega,by show 1<=nb;omega,by show nb<=64;omega,hb1,hb2⟩
  exact Pm [2,2,2,2,2,1] I (CJ I (AK I G27 Z27 (Hat 6 I) (I)) (λ_ h=>⟨(⟨nb,nf,f,n,b⟩:CfR),rfl,hfin,h.cut⟩))
theorem Ou {w0:World} {H:List Ent} {b:OpsR} (s:St w0 D H w) (h:∀e∈b.H n,e∈H):RRo w b.vo (b.vs n) (b.ops n):=by
 have hat:∀e∈b.H n,e.at w:=λe he=>s.hp.holds e (h e he)
 refine⟨BU (hat (AA b.vo 40 C6 (b.vs n)) (by simp)),by unfold OpsR.vs OpsR.ops;rw[k9,k9];rfl,λi s l h1 h2=>?_⟩
 unfold OpsR.vs at h1
 unfold OpsR.ops at h2
 have hi:i<n:=by
  have:=(lR.1 h1).1
  rw[k9] at this;omega
 rw[pE hi] at h1 h2
 match i with
 |0=>cases h1;cases h2;exact BU (hat (AA b.q0.v 43 Opn.enc b.o0) (by simp))
 |1=>cases h1;cases h2;exact BU (hat (AA b.q1.v 43 Opn.enc b.o1) (by simp))
 |2=>cases h1;cases h2;exact BU (hat (AA b.q2.v 43 Opn.enc b.o2) (by simp))
 |3=>cases h1;cases h2;exact BU (hat (AA b.q3.v 43 Opn.enc b.o3) (by simp))
 |i+4=>simp at h1
theorem OpsR.mem {b:OpsR} {l:List Opn} (h:l∈b.ops n):l=b.o0\/l=b.o1\/l=b.o2\/l=b.o3:=by
 have:=kZ h
 simpa using this
theorem OpsR.olen (b:OpsR) {n:Nat} (h:n<=4):(b.ops n).length=n:=by unfold OpsR.ops;rw[k9];exact mE h
structure ShR where
 z:HC
 r:CfR
abbrev ShR.m (s:ShR):HM:=hmS s.r.nb s.r.nf s.r.fl (s.r.b.ops s.r.n)
theorem CfOk.each {r:CfR} (h:CfOk k r) {l:List Opn} (hl:l∈r.b.ops r.n):l.length<=k/\∀o∈l,1<=o.kind/\o.kind<=4:=by
 have hlen:=h.len
 rcases OpsR.mem hl with e|e|e|e
 .exact⟨by rw[e];omega,λo ho=>by have:=h.ok o (.inl (e▸ho));exact⟨this.1,this.2.1⟩⟩
 .exact⟨by rw[e];omega,λo ho=>by have:=h.ok o (.inr (.inl (e▸ho)));exact⟨this.1,this.2.1⟩⟩
 .exact⟨by rw[e];omega,λo ho=>by have:=h.ok o (.inr (.inr (.inl (e▸ho))));exact⟨this.1,this.2.1⟩⟩
 .exact⟨by rw[e];omega,λo ho=>by have:=h.ok o (.inr (.inr (.inr (e▸ho))));exact⟨this.1,this.2.1⟩⟩
theorem YW (v:Int) (l:List Int):Con prog 11 [.int .i64 v,va] (λw=>RdV w va (AH .i64) l) [] (λs:ShR=>.tuple #[ptV s.z.bH,.agg (cfC s.r.nb s.r.nf s.r.fl s.r.b.vo).toArray]) (λs=>CfOk (min l.length 12) s.r/\HOk s.z s.m 0) (λs=>s.r.b.H s.r.n++HC.H s.z s.m):=by
 intro w hl hH
 refine E0 func11 I hH (Cs I (Las I (l_e I (Au I I I zeroValue27 (λbr=>Ce [.int .i64 0,.int .i64 0,.int .i64 0,.slice none 0 0] I (Nk (Cs I (Lm I (l_e I (BV (cQ v []) I I I call24 I (λ_ h=>EI _) ?_))))))))))
 rintro c hc
 obtain⟨nb,nf,f,n,b⟩:=c
 refine Pw (St w [] (b.H n++[Ad br 27 [.int .i64 0,.int .i64 0,.int .i64 0,.slice none 0 0]])) ?_
 refine Pre.fact (λ_ h=>BW (h.at 0 I)) ?_
 rintro⟨va2,vc2,hvo⟩
 obtain⟨h1n,h4n,hf3,hnf1,hnf2,hnb1,hnb2,_,_⟩:=hc
 dsimp only at h1n h4n hf3 hnf1 hnf2 hnb1 hnb2
 refine l_e I (Au I I I zeroValue27 (λbc=>Ce [.int .i64 0,.int .i64 0,.int .i64 0,.slice none 0 0] I ?_))
 have hone:∀v∈cfC nb nf f b.vo,v.oneCell'=true:=by rw[hvo];exact Jj _ _ _ _ _ _
 refine l_e I (SA Z27 I hone (Ce (cfC nb nf f b.vo) I (Nk (Cs I (Lfa U27 I Z25 I (Lo G25 0 I (Lq I (AJ I U25 I (Hrd 1 I)) (Ak I (Af (Sv' 7 (.int .i64 (n:Int)) I (by rw[b.vlen h4n]) (EM (Av (C0 (Av (D3 (Av (AX (Av (AM (Av (row0 3 (AH .i64) none (Pm [1,1] I (AX (Cr I (Ak I (Af (Cs I (Ak I ?_))))))))))))))))))))))))))))
 refine Dw (λ(vL:Value) (L:List Int)=>[(1,va),(4,.pointer none),(5,ptV br),(6,ptV bc),(7,.int .i64 (n:Int)),(8,vL)]) (λ(vL:Value) (L:List Int)=>St w [] [AA vL 3 (AH .i64) L,Ad bc 27 (cfC nb nf f b.vo),Ad br 27 [.int .i64 0,.int .i64 0,.int .i64 0,.slice none 0 0]]) (λ(vL:Value) (L:List Int)=>L.length<=12/\L.length<=l.length) ?_ ?_
 .refine Aj ?_
  refine Fp (λ(i:Nat) (vL:Value) (L:List Int)=>[(1,va),(4,.pointer none),(5,ptV br),(6,ptV bc),(7,.int .i64 (n:Int)),(8,vL),(9,.int .i64 (i:Int))]) (λ(i:Nat) (vL:Value) (L:List Int)=>St w [] [AA vL 3 (AH .i64) L,Ad bc 27 (cfC nb nf f b.vo),Ad br 27 [.int .i64 0,.int .i64 0,.int .i64 0,.slice none 0 0]]) (λ(i:Nat) (vL:Value) (L:List Int)=>i<=12/\i<=l.length/\L.length=i) (λ(i:Nat) (vL:Value) (L:List Int)=>12-i) (0) (.slice none 0 0) ([]) ⟨lK _,lK _,rfl⟩ (Si I) Ih (λi vL L hpl=>Af (Af ?_))
  obtain⟨hi12,hil,hLl⟩:=hpl
  refine Cr I (Mv 2 I (Lq I (AJ I U22 I hl.kp) (Mv 2 I (CB 21 I (λh1=>?_) (λh1=>?_)))))
  .refine Mv 3 I (Nk (CB 24 I (λh2=>?_) (λh2=>?_)))
   .obtain⟨x,hx⟩:=gE l i
    refine Ah I (Ae (Ks (Aj (Do8 [0,1,2,3,4,6,7,8,9,10,5,11,12,13,14,15,16] 119810421 (λw2=>RdV w2 va (AH .i64) l) I St.drawn hl.kp (Md 3 I (Dq I (Ar i I U22 Z3 I Ih I I) (Dq I (AI i 0 I G3 I I Ih hx I) (Md 2 I (Dq I (Ar i I U22 Z3 I Ih I I) (Dq I (AI i 0 I G3 I I Ih hx I) (Dq I (dF I I I (by decide)) (d_e I (E1 (FT _ 512 (by decide) (by decide)) I call27 Tt (λ_ _=>Ai hl.kp (d_e I (E1 (FT _ 50 (by decide) (by decide)) I call27 Tt (λ_ _=>Ai hl.kp (Dq I (GN I I I) (Dq I (Bh I I I) (d_e I (Ax (sz:=1) [.tmp 40] I I I I I U22 Z3 I zeroValue3 I (λb2=>Ai hl.kp (AM (d_t I (Ap U22 U22 EA I (λ_ h=>AY (h.at 1 I) (AH .i64) [(x%512+12288*(IntKind.i64.wrap (x.tdiv 512)%50))] I I) (by simp only[lp,kQ,ob];omega) ?_)))))))))))))))))))))))))
    intro v2
    refine AM (Av (d_t I (e_q I I (AF I I) (AL (Aw (Kt (Cr I (Lm I (Lq I (Qi I) (Las I (AB ?_)))))))))))
    exact AE ((i+1,v2,L++[(x%512+12288*(IntKind.i64.wrap (x.tdiv 512)%50))])) (by dsimp only;omega) ⟨by dsimp only;omega,by dsimp only;omega,by dsimp only;rw[lp,hLl];rfl⟩ (Si I) (λ_ h=>h)
   .refine Aa I (AO (Ab (Ab (Am ?_))))
    exact Bc ((vL,L)) ⟨by dsimp only;omega,by dsimp only;omega⟩ (Si I) (λ_ h=>h)
  .refine Mv 3 I (Nk (Aa I (AO (Ab (Ab (Am ?_))))))
   exact Bc ((vL,L)) ⟨by dsimp only;omega,by dsimp only;omega⟩ (Si I) (λ_ h=>h)
 .intro vL L hL
  obtain⟨hL12,hLl⟩:=hL
  refine Cs I (Mv 2 I (l_e I (BV (YM L n h1n h4n) I I I call25 I (Hrd 0 I) ?_)))
  rintro b2 ⟨hb1,hb2⟩
  refine Pw (St w [] (b2.H n++[AA vL 3 (AH .i64) L,Ad bc 27 (cfC nb nf f b.vo),Ad br 27 [.int .i64 0,.int .i64 0,.int .i64 0,.slice none 0 0]])) ?_
  refine Pre.fact (λ_ h=>BW (h.at 0 I)) ?_
  rintro⟨va3,vc3,hvo2⟩
  refine Lfa U27 I Z25 I (Ed (l_e I (AG I I Z25 I I (by rw[hvo2];rfl) (ng I) (Ce (cfC nb nf f b2.vo) I (Nk (Cs I (Lq I (Cq _ G27 Z27 0 I I I) (Ed (Av (Pm [1,1,1,1,1] I ?_))))))))))
  have hcf:CfOk (min l.length 12) (⟨nb,nf,f,n,b2⟩:CfR):=⟨h1n,h4n,hf3,hnf1,hnf2,hnb1,hnb2,by show _<=_;have h9:=hb1;show b2.o0.length+b2.o1.length+b2.o2.length+b2.o3.length<=min l.length 12;omega,hb2⟩
  have hln:=b2.olen h4n
  refine Pre.world (St w [] ((b2.H n++[Ad bc 27 (cfC nb nf f b2.vo),Ad br 27 [.int .i64 0,.int .i64 0,.int .i64 0,.slice none 0 0]])++[])) (λ_ h=>by rw[nS];exact h) ?_
  refine l_e I (Ig (b2.H n++[Ad bc 27 (cfC nb nf f b2.vo),Ad br 27 [.int .i64 0,.int .i64 0,.int .i64 0,.slice none 0 0]]) (HA:=[]) (Yd (vs:=b2.vs n) (ls:=b2.ops n) (nb:=nb) (nf:=nf) (fl:=f) hnb1 (by omega) hf3 (by omega) (by omega) (by omega) (by omega) (λq hq=>by have:=(hcf.each hq).1;omega) (λq hq=>(hcf.each hq).2)) I I I call18 I (λ_ h=>Ou h (λe he=>lO _ (lO _ he))) (λz hz=>Pw (St w [] ((b2.H n++[Ad bc 27 (cfC nb nf f b2.vo),Ad br 27 [.int .i64 0,.int .i64 0,.int .i64 0,.slice none 0 0]])++HC.H z (hmS nb nf f (b2.ops n)))) ?_))
  refine Mv 4 I (Ak I (Af (Cs I (Mv 3 I (Sb 54 false I (I) (Lm I (Lq I (DS I U24 I I) (Mv 2 I (Sb 58 false I (I) (Lm I (l_e I (Ee (b2.H n++[Ad bc 27 (cfC nb nf f b2.vo),Ad br 27 [.int .i64 0,.int .i64 0,.int .i64 0,.slice none 0 0]]) (MX hz) I call19 Tt (λ_ _=>Pw (St w [] ((b2.H n++[Ad bc 27 (cfC nb nf f b2.vo),Ad br 27 [.int .i64 0,.int .i64 0,.int .i64 0,.slice none 0 0]])++HC.H z (hmS nb nf f (b2.ops n)))) ?_)))))))))))))
  refine Lq I (DS I underlying47 I I) (Lq I (Qz I) (Nk (Sb 62 false I (I) (Aa I (Ae (Ks (Do8 (rg 4) 54 _ I St.drawn Ih (Dm I (Dq I (Cq _ G27 Z27 5 I I I) (Das I ?_))))))))))
  have hone2:∀v∈cfC nb nf f b2.vo,v.oneCell'=true:=by rw[hvo2];exact Jj _ _ _ _ _ _
  exact Ed (d_t I (SA Z27 I hone2 (Ce (cfC nb nf f b2.vo) I (AL (Kt (Ag (BM I (id I) (AK I G27 Z27 (Hat 0 I) (I)) (λ_ h=>⟨(⟨z,⟨nb,nf,f,n,b2⟩⟩:ShR),rfl,⟨hcf,hz⟩,(h.sublist (.cons _ ((oW (b2.H n)).append (.cons _ (oW (HC.H z (hmS nb nf f (b2.ops n))))))))⟩))))))))
theorem Lz (a:Ans):M9 a a=true:=by unfold M9;exact od ⟨rfl,rfl,rfl⟩
theorem gN {m:List En} (ho:c.op=o) (ha:c.a=BC) (h1:BH o=false) (h2:o.kind≠4):Bj m c=(Bs m (mOf o),true):=by
 rw[FU (q:=(Bs m (mOf o),BC)) (by unfold fB;simp[ha,BC]) (by rw[ho];exact Eo h1 h2),ha,Lz,pz]
theorem TX {m:List En} (ho:c.op=o) (ha:c.a=⟨0,(AN m (kOf o)).2,(AN m (kOf o)).1⟩) (h1:BH o=false) (h2:o.kind=4):Bj m c=(m,true):=by
 rw[FU (q:=(m,⟨0,(AN m (kOf o)).2,(AN m (kOf o)).1⟩)) (by unfold fB;simp[ha]) (by rw[ho];exact Lu h1 h2),ha,Lz,pz]
theorem cR {m:List En} (h0:0<=c.to') (ha:c.a=⟨3,false,kv0 16⟩):Bj m c=(m,true):=by
 rw[YS (by unfold fB;rw[ha,od h0];rfl),ha];rfl
theorem Fg (h:k<l.length):l.getD k ca0∈l:=by
 rw[om,kY h];exact k7 h
def dOf (n:Nat) (p:List Nat):List Bool:=(List.range n).map (λj=>decide (j∈p))
theorem Sl (h:j<n):(dOf n p).getD j false=decide (j∈p):=by
 unfold dOf
 rw[om,lS,lT h];rfl
theorem TY (n:Nat) (p:List Nat):(dOf n p).length=n:=by unfold dOf;rw[mB,oN]
theorem cS (h:k<n):(dOf n p).set k true=dOf n (p++[k]):=by
 apply lY
 intro j
 rw[oC,TY]
 by_cases hj:j<n
 .unfold dOf
  rw[lS,lS,lT hj]
  by_cases e:k=j
  .subst e;rw[lu rfl,lu h];simp
  .rw[lz e]
   simp only[lU]
   congr 1
   have:(j∈p++[k])↔j∈p:=by simp[nj e]
   exact (oE.2 this).symm
 .have h1:∀q,(dOf n q)[j]?=none:=λq=>k8 (by rw[TY];omega)
  rw[h1,h1]
  rw[lz (show ¬k=j by omega)]
theorem cW (n:Nat):dOf n []=List.replicate n false:=by
 apply lY
 intro j
 unfold dOf
 rw[lS,mO]
 by_cases hj:j<n
 .rw[lT hj,lu hj];simp
 .rw[k8 (by rw[oN];omega),lz hj];rfl
theorem Iy {m:List En} {c':Ca} (ho:c.op=c'.op) (ht:0<=c.to'↔0<=c'.to') (ha:c.a=c'.a):Bj m c=Bj m c':=by
 unfold Bj fB
 rw[ho,ha,oE.2 ht,oE.2 (show c.to'<0↔c'.to'<0 by omega)]
theorem TZ {m:List En} (h4:c.op.kind=4) (hT:BH c.op=false):(Bj m c).1=m:=by
 unfold Bj
 split
 .rfl
 .rw[Lu hT h4]
theorem cX {m:List En} (h0:c.to'<0) (h4:c.op.kind=4) (hT:BH c.op=false):Bj m c=(m,true):=by
 refine Prod.ext (TZ h4 hT) ?_
 unfold Bj fB
 rw[oc (show ¬0<=c.to' by omega),od h0];rfl
def Gb (l:List Ca) (pr:Nat->Ans) (k:Nat):Ca:={l.getD k ca0 with to':=0,a:=pr k}
def LA (l:List Ca) (pr:Nat->Ans):List Nat->List En->Option (List En)
 |[],m=>some m
 |k::ks,m=>if (Bj m (Gb l pr k)).2=true then LA l pr ks (Bj m (Gb l pr k)).1 else none
theorem Jk:∀{ks:List Nat} {k:Nat} {m m':List En},LA l pr ks m=some m'->(Bj m' (Gb l pr k)).2=true->LA l pr (ks++[k]) m=some (Bj m' (Gb l pr k)).1
 |[],k,m,m',h,h2=>by
  cases h
  show (if _ then _ else _)=_
  rw[lu h2];rfl
 |j::ks,k,m,m',h,h2=>by
  show (if _ then _ else _)=_
  have h':(if (Bj m (Gb l pr j)).2=true then LA l pr ks (Bj m (Gb l pr j)).1 else none)=some m':=h
  split at h'
  .rename_i h3
   rw[lu h3];exact Jk h' h2
  .cases h'
theorem Fh {l':List Ca} {pr':Nat->Ans}:∀{ks:List Nat} {m:List En},(∀k∈ks,∀m,Bj m (Gb l pr k)=Bj m (Gb l' pr' k))->LA l pr ks m=LA l' pr' ks m
 |[],_,_=>rfl
 |k::ks,m,h=>by
  show (if _ then _ else _)=(if _ then _ else _)
  rw[h k (ns ..) m]
  split
  .exact Fh (λj hj=>h j (nG _ hj))
  .rfl
structure LinP (l:List Ca) (n:Nat) (pr:Nat->Ans) (ord:List Nat) (m:List En):Prop where
 lt:∀k∈ord,k<l.length
 nd:ord.Nodup
 don:∀k,k<l.length->0<=(l.getD k ca0).to'->k∈ord/\(l.getD k ca0).a=pr k
 pen:∀k∈ord,(l.getD k ca0).to'<0->(l.getD k ca0).op.kind=4/\BH (l.getD k ca0).op=false
 srt:ord.Pairwise (λa b=>(l.getD b ca0).to'<0\/(l.getD a ca0).from'<(l.getD b ca0).to')
 bd:∀c∈l,0<=c.from'/\c.from'<(n:Int)/\(0<=c.to'->c.from'<c.to'/\c.to'<(n:Int))
 run:LA l pr ord []=some m
theorem LinP.step1 {m:List En} (h:LinP l n pr ord m) {k:Nat} (hk:k∈ord) {m':List En} (hs:(Bj m' (Gb l pr k)).2):Bj m' (l.getD k ca0)=((Bj m' (Gb l pr k)).1,true):=by
 have hlt:=h.lt k hk
 by_cases h0:0<=(l.getD k ca0).to'
 .have ha:=(h.don k hlt h0).2
  have e:Bj m' (l.getD k ca0)=Bj m' (Gb l pr k):=Iy rfl (by show (0<=(l.getD k ca0).to')↔(0:Int)<=0;exact⟨λ_=>by decide,λ_=>h0⟩) ha
  rw[e]
  exact Prod.ext I hs
 .obtain⟨h1,h2⟩:=h.pen k hk (by omega)
  rw[cX (by omega) h1 h2,TZ (c:=Gb l pr k) (by exact h1) (by exact h2)]
def Ea (l:List Ca):List Nat->List En->List En
 |[],m=>m
 |k::ks,m=>Ea l ks (Bj m (l.getD k ca0)).1
theorem CompO.comp {m:List En} {q:List Nat} (h:CompO l d m q):Comp l d m:=by
 induction h with
 |over h=>exact .over h
 |step i hi hf hs _ ih=>exact .step i hi hf hs ih
theorem LinP.from {m:List En} (h:LinP l n pr ord m):∀(q p:List Nat) (m':List En),ord=p++q->LA l pr q m'=some m->CompO l (dOf l.length p) m' q/\Ea l q m'=m
 |[],p,m',e,hr=>by
  refine⟨.over ?_,by cases hr;rfl⟩
  unfold Fy
  rw[np]
  intro i hi
  have hi:=lQ.1 hi
  rw[Sl hi]
  by_cases h0:(l.getD i ca0).to'<0
  .rw[od h0];rfl
  .have:=(h.don i hi (by omega)).1
   rw[e,nS] at this
   rw[od this,pz]
 |k::q,p,m',e,hr=>by
  have hk:k∈ord:=by rw[e];simp
  have hlt:=h.lt k hk
  have hr':(if (Bj m' (Gb l pr k)).2=true then LA l pr q (Bj m' (Gb l pr k)).1 else none)=some m:=hr
  split at hr'
  .rename_i hs
   have hst:=h.step1 hk hs
   have hrec:=h.from q (p++[k]) _ (by rw[e,mj];rfl) hr'
   refine⟨.step k hlt ?_ (by rw[hst]) (by rw[cS hlt,hst];exact hrec.1),by show Ea l q (Bj m' (l.getD k ca0)).1=m;rw[hst];exact hrec.2⟩
   .have hnd:=h.nd
    rw[e,nJ] at hnd
    have hnp:k∉p:=λhp=>hnd.2.2 k hp k (by simp) rfl
    unfold EC
    rw[Sl hlt,oc hnp,Bool.not_false,o9,np]
    intro j hj
    have hj:=lQ.1 hj
    rw[Sl hj]
    by_cases hb:bef (l.getD j ca0) (l.getD k ca0)=true
    .have hb':=hb
     unfold bef at hb'
     simp only[mz,mS] at hb'
     have hjo:=(h.don j hj hb'.1).1
     rw[e] at hjo
     rcases mT.1 hjo with hp|hq
     .rw[od hp];simp
     .rcases kN.1 hq with rfl|hq
      .simp
      .have hs:=h.srt
       rw[e,pg] at hs
       have:=(pc.1 hs.2.1).1 j hq
       omega
    .rw[m9.2 hb];simp
  .cases hr'
theorem LinP.comp {m:List En} (h:LinP l n pr ord m):CompO l (List.replicate l.length false) [] ord/\Ea l ord []=m:=by
 rw[<-cW];exact h.from ord [] [] rfl h.run
theorem QL (hk:k<l.length):(l++[c]).getD k ca0=l.getD k ca0:=by
 rw[om,om,lq hk]
theorem JI (ops:List (List Opn)) (ev:List Evt) (x:List Evt):∀i,i<=ev.length->Bo ops (ev++x) i=Bo ops ev i
 |0,_=>rfl
 |i+1,h=>by
  have ih:=JI ops ev x i (by omega)
  simp only[Bo]
  rw[lq (by omega),ih]
abbrev AS (ops:List (List Opn)) (ev:List Evt):List Ca:=Bo ops ev ev.length
theorem JJ (ops:List (List Opn)) (ev:List Evt) (e:Evt):AS ops (ev++[e])=Lp ops (AS ops ev) ev.length e:=by
 show Bo ops (ev++[e]) (ev++[e]).length=_
 rw[lp,ou,HY (x:=e) (by simp),JI _ _ _ _ (lJ _)]
theorem LinP.begin {n:Nat} {m:List En} (h:LinP l n pr ord m) (c:Ca) (hf:c.from'=(n:Int)) (ht:c.to' = -1):LinP (l++[c]) (n+1) pr ord m:=by
 have hg:∀k,k<l.length->(l++[c]).getD k ca0=l.getD k ca0:=λk hk=>QL hk
 refine⟨λk hk=>by have:=h.lt k hk;rw[lp,ou];omega,h.nd,λk hk h0=>?_,λk hk h0=>?_,?_,λx hx=>?_,?_⟩
 .rw[lp,ou] at hk
  by_cases e:k<l.length
  .rw[hg k e] at h0 ⊢;exact h.don k e h0
  .have e2:k=l.length:=by omega
   subst e2
   have:(l++[c]).getD l.length ca0=c:=by rw[om];simp
   rw[this,ht] at h0
   exact absurd h0 (by decide)
 .rw[hg k (h.lt k hk)] at h0 ⊢;exact h.pen k hk h0
 .refine h.srt.imp_of_mem (λ{a b} ha hb hab=>?_)
  rw[hg a (h.lt a ha),hg b (h.lt b hb)];exact hab
 .rcases mT.1 hx with hx|hx
  .obtain⟨a,b,d⟩:=h.bd x hx
   exact⟨a,by omega,λh0=>⟨(d h0).1,by have:=(d h0).2;omega⟩⟩
  .simp only[nq] at hx
   subst hx
   rw[hf,ht]
   exact⟨by omega,by omega,λh0=>by omega⟩
 .rw[<-h.run]
  exact Fh (λk hk m=>by unfold Gb;rw[hg k (h.lt k hk)])
theorem LinP.told {m:List En} (h:LinP l n pr ord m) {k:Nat} (hk:k<l.length) (h0:(l.getD k ca0).to'<0) (hko:k∉ord) (h4:(l.getD k ca0).op.kind=4) (hT:BH (l.getD k ca0).op=false) {a:Ans} (ha:∀c:Ca,c.op=(l.getD k ca0).op->0<=c.to'->c.a=a->Bj m c=(m,true)):LinP l n (λj=>if j=k then a else pr j) (ord++[k]) m:=by
 have hne:∀j∈ord,j≠k:=λj hj e=>hko (e▸hj)
 refine⟨λj hj=>?_,?_,λj hj hj0=>?_,λj hj hj0=>?_,?_,h.bd,?_⟩
 .rcases mT.1 hj with h1|h1
  .exact h.lt j h1
  .simp only[nq] at h1;omega
 .rw[nJ]
  exact⟨h.nd,by simp,λy hy b hb e=>by simp only[nq] at hb;subst hb;subst e;exact hko hy⟩
 .have e:j≠k:=λe=>by subst e;omega
  obtain⟨h1,h2⟩:=h.don j hj hj0
  exact⟨lO _ h1,by rw[lz e];exact h2⟩
 .rcases mT.1 hj with h1|h1
  .exact h.pen j h1 hj0
  .simp only[nq] at h1;subst h1;exact⟨h4,hT⟩
 .rw[pg]
  refine⟨h.srt,by simp,λx hx b hb=>?_⟩
  simp only[nq] at hb
  subst hb
  exact .inl h0
 .have h1:LA l (λj=>if j=k then a else pr j) ord []=some m:=by
   rw[<-h.run]
   exact Fh (λj hj m=>by unfold Gb;dsimp only;rw[lz (hne j hj)])
  have h3:=ha (Gb l (λj=>if j=k then a else pr j) k) rfl (by show (0:Int)<=0;decide) (by unfold Gb;simp)
  have h2:=Jk (k:=k) h1 (by rw[h3])
  rw[h2,h3]
theorem LinP.map {m:List En} (h:LinP l n pr ord m) {f:Ca->Ca} {k:Nat} (hk:k<l.length) (h0:(l.getD k ca0).to'<0) (hko:k∈ord) (hs:∀j,j<l.length->j≠k->f (l.getD j ca0)=l.getD j ca0)
 (hf:(f (l.getD k ca0)).from'=(l.getD k ca0).from') (ht:(f (l.getD k ca0)).to'=(n:Int)) (ho:(f (l.getD k ca0)).op=(l.getD k ca0).op) (ha:(f (l.getD k ca0)).a=pr k):LinP (l.map f) (n+1) pr ord m:=by
 have hg:∀j,j<l.length->(l.map f).getD j ca0=f (l.getD j ca0):=λj hj=>by
  rw[om,om,lS,kY hj];rfl
 have hfr:∀j,j<l.length->((l.map f).getD j ca0).from'=(l.getD j ca0).from':=λj hj=>by
  rw[hg j hj]
  by_cases e:j=k
  .rw[e];exact hf
  .rw[hs j hj e]
 refine⟨λj hj=>by rw[mB];exact h.lt j hj,h.nd,λj hj hj0=>?_,λj hj hj0=>?_,?_,λx hx=>?_,?_⟩
 .rw[mB] at hj
  rw[hg j hj] at hj0 ⊢
  by_cases e:j=k
  .subst e;exact⟨hko,ha⟩
  .rw[hs j hj e] at hj0 ⊢;exact h.don j hj hj0
 .have hj2:=h.lt j hj
  rw[hg j hj2] at hj0 ⊢
  by_cases e:j=k
  .subst e;rw[ht] at hj0;omega
  .rw[hs j hj2 e] at hj0 ⊢;exact h.pen j hj hj0
 .refine h.srt.imp_of_mem (λ{a b} ha' hb hab=>?_)
  rw[hfr a (h.lt a ha'),hg b (h.lt b hb)]
  by_cases e:b=k
  .subst e
   right
   rw[ht]
   exact (h.bd _ (Fg (h.lt a ha'))).2.1
  .rw[hs b (h.lt b hb) e];exact hab
 .obtain⟨y,hy,rfl⟩:=lP.1 hx
  obtain⟨j,hj,rfl⟩:=List.mem_iff_getElem.1 hy
  have ej:l[j]=l.getD j ca0:=by rw[om,kY hj];rfl
  rw[ej]
  obtain⟨a,b,d⟩:=h.bd _ (Fg hj)
  by_cases e:j=k
  .subst e
   rw[hf,ht]
   exact⟨a,by omega,λ_=>⟨b,by omega⟩⟩
  .rw[hs j hj e]
   exact⟨a,by omega,λh0=>⟨(d h0).1,by have:=(d h0).2;omega⟩⟩
 .rw[<-h.run]
  refine Fh (λj hj m=>?_)
  have hj2:=h.lt j hj
  refine Iy ?_ Iff.rfl I
  show ((l.map f).getD j ca0).op=(l.getD j ca0).op
  rw[hg j hj2]
  by_cases e:j=k
  .subst e;exact ho
  .rw[hs j hj2 e]
theorem LinP.wait {m:List En} (h:LinP l n pr ord m) {f:Ca->Ca} {k:Nat} (hk:k<l.length) (h0:(l.getD k ca0).to'<0) (hko:k∉ord) (hs:∀j,j<l.length->j≠k->f (l.getD j ca0)=l.getD j ca0)
 (hf:(f (l.getD k ca0)).from'=(l.getD k ca0).from') (ht:(f (l.getD k ca0)).to'=(n:Int)) {m':List En} (hr:Bj m (f (l.getD k ca0))=(m',true)):LinP (l.map f) (n+1) (λj=>if j=k then (f (l.getD k ca0)).a else pr j) (ord++[k]) m':=by
 have hg:∀j,j<l.length->(l.map f).getD j ca0=f (l.getD j ca0):=λj hj=>by
  rw[om,om,lS,kY hj];rfl
 have hne:∀j∈ord,j≠k:=λj hj e=>hko (e▸hj)
 have hgo:∀j∈ord,(l.map f).getD j ca0=l.getD j ca0:=λj hj=>by
  rw[hg j (h.lt j hj)];exact hs j (h.lt j hj) (hne j hj)
 refine⟨λj hj=>?_,?_,λj hj hj0=>?_,λj hj hj0=>?_,?_,λx hx=>?_,?_⟩
 .rw[mB]
  rcases mT.1 hj with h1|h1
  .exact h.lt j h1
  .simp only[nq] at h1;omega
 .rw[nJ]
  exact⟨h.nd,by simp,λy hy b hb e=>by simp only[nq] at hb;subst hb;subst e;exact hko hy⟩
 .rw[mB] at hj
  rw[hg j hj] at hj0 ⊢
  by_cases e:j=k
  .subst e;exact⟨nK _ (by simp),by rw[lu rfl]⟩
  .rw[hs j hj e] at hj0 ⊢
   obtain⟨h1,h2⟩:=h.don j hj hj0
   exact⟨lO _ h1,by rw[lz e];exact h2⟩
 .rcases mT.1 hj with h1|h1
  .rw[hgo j h1] at hj0 ⊢;exact h.pen j h1 hj0
  .simp only[nq] at h1
   subst h1
   rw[hg j hk,ht] at hj0;omega
 .rw[pg]
  refine⟨h.srt.imp_of_mem (λ{a b} ha hb hab=>by rw[hgo a ha,hgo b hb];exact hab),by simp,λy hy b hb=>?_⟩
  simp only[nq] at hb
  subst hb
  right
  rw[hgo y hy,hg b hk,ht]
  exact (h.bd _ (Fg (h.lt y hy))).2.1
 .obtain⟨y,hy,rfl⟩:=lP.1 hx
  obtain⟨j,hj,rfl⟩:=List.mem_iff_getElem.1 hy
  have ej:l[j]=l.getD j ca0:=by rw[om,kY hj];rfl
  rw[ej]
  obtain⟨a,b,d⟩:=h.bd _ (Fg hj)
  by_cases e:j=k
  .subst e
   rw[hf,ht]
   exact⟨a,by omega,λ_=>⟨b,by omega⟩⟩
  .rw[hs j hj e]
   exact⟨a,by omega,λh0=>⟨(d h0).1,by have:=(d h0).2;omega⟩⟩
 .have h1:LA (l.map f) (λj=>if j=k then (f (l.getD k ca0)).a else pr j) ord []=some m:=by
   rw[<-h.run]
   exact Fh (λj hj m=>Iy (by show ((l.map f).getD j ca0).op=(l.getD j ca0).op;rw[hgo j hj]) Iff.rfl (by show (if j=k then _ else pr j)=pr j;rw[lz (hne j hj)]))
  have h3:∀m,Bj m (Gb (l.map f) (λj=>if j=k then (f (l.getD k ca0)).a else pr j) k)=Bj m (f (l.getD k ca0)):=λm=>by
   refine Iy ?_ ?_ ?_
   .show ((l.map f).getD k ca0).op=_
    rw[hg k hk]
   .show (0:Int)<=0↔_
    rw[ht]
    exact⟨λ_=>by omega,λ_=>by decide⟩
   .show (if k=k then _ else _)=_
    rw[lu rfl]
  have h2:=Jk (k:=k) h1 (by rw[h3,hr])
  rw[h2,h3,hr]
theorem OpIn.kind {ops:List (List Opn)} {t:Nat} (h:OpIn ops t nx):(Em ops t nx).kind=1\/(Em ops t nx).kind=2\/(Em ops t nx).kind=3\/(Em ops t nx).kind=4:=by
 obtain⟨lo,o,h1,h2,h3⟩:=h
 unfold Em
 rw[om,om,h1]
 show ((lo[nx]?).getD _).kind=1\/((lo[nx]?).getD _).kind=2\/((lo[nx]?).getD _).kind=3\/((lo[nx]?).getD _).kind=4
 rw[h2];exact h3
theorem OpIn.ev {ops:List (List Opn)} {t nx:Nat} (h:OpIn ops t nx) (d:Bool) (a:Ans) (ha:(Lit.int .i64 a.code).wf) {ev:List Evt} (hev:YF ops ev):YF ops (ev++[⟨(t:Int),(nx:Int),d,a⟩]):=λx hx=>by
 rcases mT.1 hx with hx|hx
 .exact hev x hx
 .simp only[nq] at hx
  subst hx
  obtain⟨lo,o,h1,h2,h3⟩:=h
  refine⟨ha,t,nx,lo,o,rfl,rfl,h1,h2,?_⟩
  show (ops.getD ((t:Nat):Int).toNat []).getD ((nx:Nat):Int).toNat _=o
  rw[mV,mV,om,om,h1]
  show (lo[nx]?).getD _=o
  rw[h2];rfl
theorem Pth.snoc {ops:List (List Opn)} {s1 s2:List (Nat×Bool)} {ev:List Evt} {e:Evt} (h:Pth ops s ev s1) (r:EvS ops s1 e s2):Pth ops s (ev++[e]) s2:=by
 induction h with
 |nil s=>exact .cons r (.nil _)
 |cons h _ ih=>exact .cons h (ih r)
structure HB (ops:List (List Opn)) (s:List (Nat×Bool)) (ev:List Evt):Prop where
 un:(AS ops ev).Pairwise (λa b=>¬(a.client=b.client/\a.index=b.index))
 ix:∀c∈AS ops ev,∃(t:Nat) (nx:Nat) (b:Bool),c.client=(t:Int)/\s[t]?=some (nx,b)/\0<=c.index/\((c.index<(nx:Int)/\0<=c.to')\/(c.index=(nx:Int)/\b=true/\c.to'<0))
 bz:∀(t nx:Nat),s[t]?=some (nx,true)->∃k,k<(AS ops ev).length/\((AS ops ev).getD k ca0).client=(t:Int)/\((AS ops ev).getD k ca0).index=(nx:Int)/\((AS ops ev).getD k ca0).op=Em ops t nx/\((AS ops ev).getD k ca0).to'<0
 evk:YF ops ev
 cok:∀c∈AS ops ev,YU c
 len:(AS ops ev).length=(s.map (λp=>p.1+if p.2=true then 1 else 0)).sum
 pth:∃s0:List (Nat×Bool),(∀p∈s0,p=(0,false))/\s0.length=s.length/\Pth ops s0 ev s
theorem HB.nil (ops:List (List Opn)) {s:List (Nat×Bool)} (hs:∀p∈s,p=(0,false)):HB ops s []:=by
 refine⟨List.Pairwise.nil,λc h=>(by cases h),λt nx h=>?_,λx h=>(by cases h),λc h=>(by cases h),?_,s,hs,rfl,.nil s⟩
 .have:=hs _ (mQ h);cases this
 .show 0=_
  induction s with
  |nil=>rfl
  |cons p s ih =>
   rw[ma,pC,<-ih (λq hq=>hs q (nG _ hq)),hs p (ns ..)];rfl
theorem LD:∀{s:List (Nat×Bool)} {t:Nat} {p q:Nat×Bool},s[t]?=some p->((s.set t q).map (λp=>p.1+if p.2=true then 1 else 0)).sum+(p.1+if p.2=true then 1 else 0)=(s.map (λp=>p.1+if p.2=true then 1 else 0)).sum+(q.1+if q.2=true then 1 else 0)
 |[],t,p,q,h=>by simp at h
 |x::s,0,p,q,h=>by simp at h;subst h;simp only[m8,ma,pC];omega
 |x::s,t+1,p,q,h=>by
  have:=LD (s:=s) (t:=t) (p:=p) (q:=q) (by simpa using h)
  simp only[nO,ma,pC];omega
theorem T1 {t nx:Nat} {a:Ans} (h1:c.client=(t:Int)) (h2:c.index=(nx:Int)):CU n ⟨(t:Int),(nx:Int),true,a⟩ c={toC c n with a:=a}:=by unfold CU;rw[lu ⟨h1,h2⟩]
theorem Iz {t nx:Nat} {a:Ans} (h:¬(c.client=(t:Int)/\c.index=(nx:Int))):CU n ⟨(t:Int),(nx:Int),true,a⟩ c=c:=by unfold CU;rw[lz h]
theorem Ov {t nx:Nat} {a:Ans} (c:Ca):(CU n ⟨(t:Int),(nx:Int),true,a⟩ c).client=c.client/\(CU n ⟨(t:Int),(nx:Int),true,a⟩ c).index=c.index:=by unfold CU;split<;>exact⟨rfl,rfl⟩
theorem T3 (ops:List (List Opn)) (ev:List Evt) (t nx:Nat):AS ops (ev++[⟨(t:Int),(nx:Int),false,BC⟩])=AS ops ev++[JN ops ev.length ⟨(t:Int),(nx:Int),false,BC⟩]:=by rw[JJ];rfl
theorem J7 (ops:List (List Opn)) (ev:List Evt) (t nx:Nat) (a:Ans):AS ops (ev++[⟨(t:Int),(nx:Int),true,a⟩])=(AS ops ev).map (CU ev.length ⟨(t:Int),(nx:Int),true,a⟩):=by rw[JJ];rfl
theorem HB.begin {ops:List (List Opn)} {ev:List Evt} (h:HB ops s ev) {t nx:Nat} (ht:s[t]?=some (nx,false)) (hop:OpIn ops t nx):HB ops (s.set t (nx,true)) (ev++[⟨(t:Int),(nx:Int),false,BC⟩]):=by
 have hlt:=(lR.1 ht).1
 have hc:=T3 ops ev t nx
 refine⟨?_,λc hcm=>?_,λu k hu=>?_,hop.ev false BC (by decide) h.evk,λc hcm=>?_,?_,h.pth.imp (λs0 ⟨a,b,c⟩=>⟨a,by rw[nU];exact b,c.snoc (.b t nx ht hop)⟩)⟩
 .rw[hc,pg]
  refine⟨h.un,by simp,λa ha b hb=>?_⟩
  simp only[nq] at hb
  subst hb
  rintro⟨e1,e2⟩
  obtain⟨u,k,b,h1,h2,h3,h4⟩:=h.ix a ha
  have e1':a.client=(t:Int):=e1
  have e2':a.index=(nx:Int):=e2
  have:u=t:=by omega
  subst this
  rw[ht] at h2;cases h2
  rcases h4 with h4|⟨_,h4,_⟩
  .omega
  .cases h4
 .rw[hc] at hcm
  rcases mT.1 hcm with hcm|hcm
  .obtain⟨u,k,b,h1,h2,h3,h4⟩:=h.ix c hcm
   by_cases e:u=t
   .subst e
    rw[ht] at h2;cases h2
    refine⟨u,nx,true,h1,oU hlt,h3,.inl ?_⟩
    rcases h4 with h4|⟨_,h4,_⟩
    .exact h4
    .cases h4
   .exact⟨u,k,b,h1,by rw[po (nj e)];exact h2,h3,h4⟩
  .simp only[nq] at hcm
   subst hcm
   exact⟨t,nx,true,rfl,oU hlt,by show (0:Int)<=(nx:Int);omega,.inr ⟨rfl,rfl,by show (-1:Int)<0;decide⟩⟩
 .rw[hc]
  by_cases e:t=u
  .subst e
   rw[oU hlt] at hu
   cases hu
   refine⟨(AS ops ev).length,by simp,?_⟩
   have:(AS ops ev++[JN ops ev.length ⟨(t:Int),(nx:Int),false,BC⟩]).getD (AS ops ev).length ca0=JN ops ev.length ⟨(t:Int),(nx:Int),false,BC⟩:=by
    rw[om];simp
   rw[this]
   exact⟨rfl,rfl,rfl,by show (-1:Int)<0;decide⟩
  .rw[po e] at hu
   obtain⟨j,h1,h2⟩:=h.bz u k hu
   refine⟨j,by rw[lp];omega,?_⟩
   rw[show (AS ops ev++[JN ops ev.length ⟨(t:Int),(nx:Int),false,BC⟩]).getD j ca0=(AS ops ev).getD j ca0 by rw[om,om,lq h1]]
   exact h2
 .rw[hc] at hcm
  rcases mT.1 hcm with hcm|hcm
  .exact h.cok c hcm
  .simp only[nq] at hcm
   subst hcm
   exact⟨by show (Lit.int .i64 0).wf=true;decide,hop.kind⟩
 .rw[hc,lp,h.len]
  have:=LD (q:=(nx,true)) ht
  simp at this ⊢
  omega
theorem T4 (h:l.Pairwise (λa b=>¬(a.client=b.client/\a.index=b.index))) {j k:Nat} (hj:j<l.length) (hk:k<l.length) (e:(l.getD j ca0).client=(l.getD k ca0).client/\(l.getD j ca0).index=(l.getD k ca0).index):j=k:=by
 have ej:∀i (hi:i<l.length),l.getD i ca0=l[i]:=λi hi=>by rw[om,kY hi];rfl
 rw[ej j hj,ej k hk] at e
 rcases Nat.lt_trichotomy j k with h1|h1|h1
 .exact absurd e (o5.1 h j k hj hk h1)
 .exact h1
 .exact absurd ⟨e.1.symm,e.2.symm⟩ (o5.1 h k j hk hj h1)
theorem HB.done {ops:List (List Opn)} {ev:List Evt} (h:HB ops s ev) {t nx:Nat} (ht:s[t]?=some (nx,true)) (hop:OpIn ops t nx) {a:Ans} (ha:AnsOk (Em ops t nx) a):HB ops (s.set t (nx+1,false)) (ev++[⟨(t:Int),(nx:Int),true,a⟩]):=by
 have hlt:=(lR.1 ht).1
 obtain⟨k,hk,k1,k2,k3,k4⟩:=h.bz t nx ht
 have hc:=J7 ops ev t nx a
 have hs:∀j,j<(AS ops ev).length->j≠k->CU ev.length ⟨(t:Int),(nx:Int),true,a⟩ ((AS ops ev).getD j ca0)=(AS ops ev).getD j ca0:=λj hj hjk=>by
  refine Iz ?_
  rintro⟨e1,e2⟩
  exact hjk (T4 h.un hj hk ⟨by rw[k1];exact e1,by rw[k2];exact e2⟩)
 have hci:=λc=>Ov (n:=ev.length) (t:=t) (nx:=nx) (a:=a) c
 refine⟨?_,λc hcm=>?_,λu j hu=>?_,hop.ev true a ha.wf h.evk,λc hcm=>?_,?_,h.pth.imp (λs0 ⟨x,y,c⟩=>⟨x,by rw[nU];exact y,c.snoc (.d t nx a ht hop ha)⟩)⟩
 .rw[hc,List.pairwise_map]
  refine h.un.imp (λ{x y} hxy=>?_)
  rw[(hci x).1,(hci x).2,(hci y).1,(hci y).2];exact hxy
 .rw[hc] at hcm
  obtain⟨y,hy,rfl⟩:=lP.1 hcm
  rw[(hci y).1,(hci y).2]
  obtain⟨u,j,b,h1,h2,h3,h4⟩:=h.ix y hy
  by_cases e:u=t
  .subst e
   rw[ht] at h2;cases h2
   refine⟨u,nx+1,false,h1,oU hlt,h3,.inl ?_⟩
   rcases h4 with⟨h4,h5⟩|⟨h4,_,_⟩
   .exact⟨by omega,by rw[Iz (by rintro⟨_,e⟩;omega)];exact h5⟩
   .exact⟨by omega,by rw[T1 h1 h4];show (0:Int)<=(ev.length:Int);omega⟩
  .refine⟨u,j,b,h1,by rw[po (nj e)];exact h2,h3,?_⟩
   rw[Iz (by rintro⟨e1,_⟩;exact e (by omega))];exact h4
 .have e:t≠u:=λe=>by
   subst e
   rw[oU hlt] at hu;cases hu
  rw[po e] at hu
  obtain⟨i,h1,h2,h3,h4,h5⟩:=h.bz u j hu
  rw[hc]
  refine⟨i,by rw[mB];exact h1,?_⟩
  have hik:i≠k:=λe2=>by subst e2;rw[k1] at h2;omega
  rw[show ((AS ops ev).map (CU ev.length ⟨(t:Int),(nx:Int),true,a⟩)).getD i ca0=(AS ops ev).getD i ca0 by
   rw[<-hs i h1 hik,om,lS,om,kY h1];rfl]
  exact⟨h2,h3,h4,h5⟩
 .rw[hc] at hcm
  obtain⟨y,hy,rfl⟩:=lP.1 hcm
  have hy':=h.cok y hy
  unfold CU
  split
  .exact⟨ha.wf,hy'.kind⟩
  .exact hy'
 .rw[hc,mB,h.len]
  have:=LD (q:=(nx+1,false)) ht
  simp at this ⊢
  omega
theorem HB.pend {ops:List (List Opn)} {ev:List Evt} (h:HB ops s ev) {t nx:Nat} {b:Bool} (ht:s[t]?=some (nx,b)) {j:Nat} (hj:j<(AS ops ev).length) (h1:((AS ops ev).getD j ca0).client=(t:Int)) (h2:((AS ops ev).getD j ca0).to'<0):((AS ops ev).getD j ca0).index=(nx:Int):=by
 obtain⟨u,n,c,e1,e2,e3,e4⟩:=h.ix _ (Fg hj)
 have:u=t:=by omega
 subst this
 rw[ht] at e2;cases e2
 rcases e4 with⟨_,e4⟩|⟨e4,_,_⟩
 .omega
 .exact e4
structure HP (ops:List (List Opn)) (s:List (Nat×Bool)) (P:Nat->Option Ans) (ev:List Evt) (ord:List Nat) (m:List En):Prop extends HB ops s ev where
 lin:∃pr,LinP (AS ops ev) ev.length pr ord m/\∀k,k<(AS ops ev).length->((AS ops ev).getD k ca0).to'<0->∀t:Nat,((AS ops ev).getD k ca0).client=(t:Int)->(P t=none->k∉ord)/\∀a,P t=some a->k∈ord/\pr k=a
 mo:∀e∈m,vck e.val=true
 aw:∀(t nx:Nat) (b:Bool) (a:Ans),s[t]?=some (nx,b)->P t=some a->AnsOk (Em ops t nx) a
 sq:(AS ops ev).Pairwise (λa b=>a.client=b.client->bef a b=true)
def upP (P:Nat->Option Ans) (t:Nat) (v:Option Ans):Nat->Option Ans:=λu=>if u=t then v else P u
theorem IA (P:Nat->Option Ans) (t:Nat) (v:Option Ans):upP P t v t=v:=lu rfl
theorem LF {t u:Nat} {v:Option Ans} (h:u≠t):upP P t v u=P u:=lz h
theorem HP.nil (ops:List (List Opn)) {s:List (Nat×Bool)} (hs:∀p∈s,p=(0,false)):HP ops s (λ_=>none) [] [] [] :=
 ⟨HB.nil ops hs,⟨λ_=>BC,⟨λk h=>(by cases h),nD,λk h=>absurd h (ov _),λk h=>(by cases h),List.Pairwise.nil,λc h=>(by cases h),rfl⟩,λk h=>absurd h (ov _)⟩,λe h=>(by cases h),λ_ _ _ _ _ h=>(by cases h),List.Pairwise.nil⟩
theorem HP.comp {ops:List (List Opn)} {ev:List Evt} {m:List En} (h:HP ops s P ev ord m):CompO (AS ops ev) (List.replicate (AS ops ev).length false) [] ord/\Ea (AS ops ev) ord []=m:=by
 obtain⟨pr,hl,_⟩:=h.lin
 exact hl.comp
section
variable {ops:List (List Opn)} {s:List (Nat×Bool)} {P:Nat->Option Ans} {ev:List Evt} {ord:List Nat} {m:List En} {t nx:Nat}
theorem HP.begin (h:HP ops s P ev ord m) (ht:s[t]?=some (nx,false)) (hP:P t=none) (hop:OpIn ops t nx):HP ops (s.set t (nx,true)) P (ev++[⟨(t:Int),(nx:Int),false,BC⟩]) ord m:=by
 obtain⟨pr,hl,hp⟩:=h.lin
 have hc:=T3 ops ev t nx
 have hlt:=(lR.1 ht).1
 refine⟨h.toHB.begin ht hop,⟨pr,?_,?_⟩,h.mo,λu k b a hu ha=>?_,?_⟩
 .rw[hc,lp];exact hl.begin _ rfl rfl
 .rw[hc]
  intro k hk h0 u hu
  rw[lp,ou] at hk
  by_cases e:k<(AS ops ev).length
  .rw[QL e] at h0 hu;exact hp k e h0 u hu
  .have e2:k=(AS ops ev).length:=by omega
   have e3:(AS ops ev++[JN ops ev.length ⟨(t:Int),(nx:Int),false,BC⟩]).getD k ca0=JN ops ev.length ⟨(t:Int),(nx:Int),false,BC⟩:=by
    rw[e2,om];simp
   rw[e3] at hu
   have:u=t:=by have:(t:Int)=(u:Int):=hu;omega
   subst this
   exact⟨λ_ hm=>e (hl.lt k hm),λa ha=>by rw[hP] at ha;cases ha⟩
 .by_cases e:t=u
  .subst e;rw[hP] at ha;cases ha
  .rw[po e] at hu;exact h.aw u k b a hu ha
 .rw[hc,pg]
  refine⟨h.sq,by simp,λa ha b hb=>?_⟩
  simp only[nq] at hb
  subst hb
  intro e1
  obtain⟨u,k,b,h1,h2,h3,h4⟩:=h.ix a ha
  have e1':a.client=(t:Int):=e1
  have:u=t:=by omega
  subst this
  rw[ht] at h2;cases h2
  rcases h4 with⟨_,h4⟩|⟨_,h4,_⟩
  .have:=((hl.bd a ha).2.2 h4).2
   unfold bef
   simp only[mz,mS]
   exact⟨h4,this⟩
  .cases h4
theorem HP.end' (h:HP ops s P ev ord m) (ht:s[t]?=some (nx,true)) (hop:OpIn ops t nx) {a:Ans} (ha:AnsOk (Em ops t nx) a) {ord':Nat->List Nat} {m':List En} (hm:∀e∈m',vck e.val=true) {pr':(Nat->Ans)->Nat->Nat->Ans}
 (hk:∀(pr:Nat->Ans) (k:Nat),LinP (AS ops ev) ev.length pr ord m->k<(AS ops ev).length->((AS ops ev).getD k ca0).to'<0->((AS ops ev).getD k ca0).op=Em ops t nx->(P t=none->k∉ord)/\(∀a,P t=some a->k∈ord/\pr k=a) ->
  (∀j,j<(AS ops ev).length->j≠k->CU ev.length ⟨(t:Int),(nx:Int),true,a⟩ ((AS ops ev).getD j ca0)=(AS ops ev).getD j ca0)->CU ev.length ⟨(t:Int),(nx:Int),true,a⟩ ((AS ops ev).getD k ca0)={toC ((AS ops ev).getD k ca0) ev.length with a:=a} ->
  LinP ((AS ops ev).map (CU ev.length ⟨(t:Int),(nx:Int),true,a⟩)) (ev.length+1) (pr' pr k) (ord' k) m'/\∀j,j≠k->(j∈ord' k↔j∈ord)/\pr' pr k j=pr j):∃k,HP ops (s.set t (nx+1,false)) (upP P t none) (ev++[⟨(t:Int),(nx:Int),true,a⟩]) (ord' k) m':=by
 obtain⟨pr,hl,hp⟩:=h.lin
 obtain⟨k,hlt,k1,k2,k3,k4⟩:=h.bz t nx ht
 have hs:∀j,j<(AS ops ev).length->j≠k->CU ev.length ⟨(t:Int),(nx:Int),true,a⟩ ((AS ops ev).getD j ca0)=(AS ops ev).getD j ca0:=λj hj hjk=>by
  refine Iz ?_
  rintro⟨e1,e2⟩
  exact hjk (T4 h.un hj hlt ⟨by rw[k1];exact e1,by rw[k2];exact e2⟩)
 have hf:=T1 (n:=ev.length) (a:=a) k1 k2
 obtain⟨q1,q2⟩:=hk pr k hl hlt k4 k3 (hp k hlt k4 t k1) hs hf
 have hlu:=(lR.1 ht).1
 refine⟨k,h.toHB.done ht hop ha,⟨pr' pr k,?_,?_⟩,hm,λu i b x hu hx=>?_,?_⟩
 .rw[J7,lp];exact q1
 .rw[J7]
  intro j hj h0 u hu
  rw[mB] at hj
  have hg:((AS ops ev).map (CU ev.length ⟨(t:Int),(nx:Int),true,a⟩)).getD j ca0=CU ev.length ⟨(t:Int),(nx:Int),true,a⟩ ((AS ops ev).getD j ca0):=by
   rw[om,om,lS,kY hj];rfl
  rw[hg] at h0 hu
  by_cases e:j=k
  .subst e
   rw[hf] at h0
   have:(ev.length:Int)<0:=h0
   omega
  .rw[hs j hj e] at h0 hu
   have hut:u≠t:=λe2=>by
    subst e2
    exact e (T4 h.un hj hlt ⟨by rw[hu,k1],by rw[h.toHB.pend ht hj hu h0,k2]⟩)
   rw[LF hut]
   obtain⟨a1,a2⟩:=hp j hj h0 u hu
   obtain⟨b1,b2⟩:=q2 j e
   exact⟨λe1=>by rw[b1];exact a1 e1,λx hx=>by rw[b1,b2];exact a2 x hx⟩
 .by_cases e:u=t
  .subst e;rw[IA] at hx;cases hx
  .rw[LF e] at hx;rw[po (nj e)] at hu;exact h.aw u i b x hu hx
 .rw[J7,List.pairwise_map]
  refine h.sq.imp_of_mem (λ{x y} hx hy hxy hc=>?_)
  rw[(Ov x).1,(Ov y).1] at hc
  have h1:=hxy hc
  unfold bef at h1 ⊢
  simp only[mz,mS] at h1 ⊢
  have e1:CU ev.length ⟨(t:Int),(nx:Int),true,a⟩ x=x:=Iz (by
   rintro⟨e1,e2⟩
   obtain⟨v,i,b,h2,h3,h4,h5⟩:=h.ix x hx
   have:v=t:=by omega
   subst this
   rw[ht] at h3;cases h3
   rcases h5 with⟨h5,_⟩|⟨_,_,h5⟩
   .omega
   .omega)
  rw[e1]
  have e2:(CU ev.length ⟨(t:Int),(nx:Int),true,a⟩ y).from'=y.from':=by unfold CU;split<;>rfl
  rw[e2];exact h1
theorem HP.done (h:HP ops s P ev ord m) (ht:s[t]?=some (nx,true)) (hP:P t=none) (hop:OpIn ops t nx) {a:Ans} (ha:AnsOk (Em ops t nx) a) {m':List En} (hm:∀e∈m',vck e.val=true) (hr:∀c:Ca,c.op=Em ops t nx->0<=c.to'->c.a=a->Bj m c=(m',true)):∃k,HP ops (s.set t (nx+1,false)) (upP P t none) (ev++[⟨(t:Int),(nx:Int),true,a⟩]) (ord++[k]) m' :=
 h.end' ht hop ha hm (ord':=λk=>ord++[k]) (pr':=λpr k j=>if j=k then (CU ev.length ⟨(t:Int),(nx:Int),true,a⟩ ((AS ops ev).getD k ca0)).a else pr j) (λpr k hl hk h0 ho hp hs hf=>⟨hl.wait hk h0 (hp.1 hP) hs (by rw[hf];rfl) (by rw[hf];rfl) (by rw[hf];exact hr _ ho (by show (0:Int)<=(ev.length:Int);omega) rfl),λj hj=>⟨by simp[hj],lz hj⟩⟩)
theorem HP.fin (h:HP ops s P ev ord m) (ht:s[t]?=some (nx,true)) {a:Ans} (hP:P t=some a) (hop:OpIn ops t nx):HP ops (s.set t (nx+1,false)) (upP P t none) (ev++[⟨(t:Int),(nx:Int),true,a⟩]) ord m:=by
 obtain⟨_,h2⟩:=h.end' ht hop (h.aw t nx true a ht hP) h.mo (ord':=λ_=>ord) (m':=m) (pr':=λpr _=>pr) (λpr k hl hk h0 ho hp hs hf=>⟨hl.map hk h0 (hp.2 a hP).1 hs (by rw[hf];rfl) (by rw[hf];rfl) (by rw[hf];rfl) (by rw[hf];exact (hp.2 a hP).2.symm),λj _=>⟨Iff.rfl,rfl⟩⟩)
 exact h2
theorem HP.told (h:HP ops s P ev ord m) (ht:s[t]?=some (nx,true)) (hP:P t=none) (h4:(Em ops t nx).kind=4) (hT:BH (Em ops t nx)=false) {a:Ans} (ha:AnsOk (Em ops t nx) a) (hr:∀c:Ca,c.op=Em ops t nx->0<=c.to'->c.a=a->Bj m c=(m,true)):∃k,HP ops s (upP P t (some a)) ev (ord++[k]) m:=by
 obtain⟨pr,hl,hp⟩:=h.lin
 obtain⟨k,hlt,k1,k2,k3,k4⟩:=h.bz t nx ht
 have hko:=(hp k hlt k4 t k1).1 hP
 refine⟨k,h.toHB,⟨_,hl.told hlt k4 hko (by rw[k3];exact h4) (by rw[k3];exact hT) (a:=a) (λc hc=>hr c (by rw[hc,k3])),λj hj h0 u hu=>?_⟩,h.mo,λu i b x hu hx=>?_,h.sq⟩
 rotate_left
 .by_cases e:u=t
  .subst e;rw[IA] at hx;cases hx;rw[ht] at hu;cases hu;exact ha
  .rw[LF e] at hx;exact h.aw u i b x hu hx
 by_cases e:u=t
 .subst e
  have:j=k:=T4 h.un hj hlt ⟨by rw[hu,k1],by rw[h.toHB.pend ht hj hu h0,k2]⟩
  subst this
  rw[IA]
  exact⟨λe=>(by cases e),λb hb=>⟨nK _ (by simp),by cases hb;exact lu rfl⟩⟩
 .rw[LF e]
  have hjk:j≠k:=λe2=>by subst e2;rw[k1] at hu;omega
  obtain⟨a1,a2⟩:=hp j hj h0 u hu
  refine⟨λe1 hm=>?_,λb hb=>⟨lO _ (a2 b hb).1,(lz hjk).trans (a2 b hb).2⟩⟩
  rcases mT.1 hm with h1|h1
  .exact a1 e1 h1
  .exact hjk (by simpa using h1)
end
inductive EvP (t nx:Nat) (o:Opn) (m:List En):Bool->Option Ans->Bool->Option Ans->Nat->List Evt->List En->Prop
 |none {b:Bool} {p:Option Ans}:EvP t nx o m b p b p nx [] m
 |begin:EvP t nx o m false none true none nx [⟨(t:Int),(nx:Int),false,BC⟩] m
 |big (h:BH o=true):EvP t nx o m false none false none (nx+1) [⟨(t:Int),(nx:Int),false,BC⟩,⟨(t:Int),(nx:Int),true,⟨2,false,kv0 16⟩⟩] m
 |put (hT:BH o=false) (h4:o.kind≠4):EvP t nx o m true none false none (nx+1) [⟨(t:Int),(nx:Int),true,BC⟩] (Bs m (mOf o))
 |full (hT:BH o=false) (h4:o.kind≠4):EvP t nx o m true none false none (nx+1) [⟨(t:Int),(nx:Int),true,⟨3,false,kv0 16⟩⟩] m
 |get (hT:BH o=false) (h4:o.kind=4) (f:Bool) (v:Kv 16) (e:AN m (kOf o)=(v,f)):EvP t nx o m true none false none (nx+1) [⟨(t:Int),(nx:Int),true,⟨0,f,v⟩⟩] m
 |told (hT:BH o=false) (h4:o.kind=4) (f:Bool) (v:Kv 16) (e:AN m (kOf o)=(v,f)):EvP t nx o m true none true (some ⟨0,f,v⟩) nx [] m
 |fin (a:Ans):EvP t nx o m true (some a) false none (nx+1) [⟨(t:Int),(nx:Int),true,a⟩] m
theorem YX {m:List En} (h:∀e∈m,vck e.val=true) {k:Kv 8} {v:Kv 16} {f:Bool} (e:AN m k=(v,f)):vck v=true/\(f=true\/v=kv0 16):=by
 unfold AN at e
 split at e
 .rename_i x hx
  split at e
  .cases e;exact⟨h _ (mQ hx),.inl rfl⟩
  .cases e;exact⟨by decide +kernel,.inr rfl⟩
 .cases e;exact⟨by decide +kernel,.inr rfl⟩
theorem YY {m:List En} (h:∀e∈m,vck e.val=true) {o:Opn} (hT:BH o=false) (h4:o.kind=4) {v:Kv 16} {f:Bool} (e:AN m (kOf o)=(v,f)):AnsOk o ⟨0,f,v⟩:=⟨by rw[hT];rfl,.inl rfl,λ_=>⟨h4,rfl⟩,(YX h e).1,(YX h e).2⟩
theorem gO {m:List En} (h:∀e∈m,vck e.val=true) (o:Opn):∀e∈Bs m (mOf o),vck e.val=true:=λe he=>by
 unfold Bs at he
 rcases mT.1 he with he|he
 .rcases mT.1 he with he|he
  .exact h e (kZ he)
  .exact (J4 he).2
 .exact h e (List.mem_of_mem_drop he)
theorem So {t:Nat} {p:Option Ans} (h:P t=p):upP P t p=P:=funext (λu=>by
 unfold upP
 split
 .rename_i e;rw[e,h]
 .rfl)
theorem HP.step {ops:List (List Opn)} {ev:List Evt} {m m':List En} (h:HP ops s P ev ord m) {t nx nx':Nat} {b b':Bool} {p p':Option Ans} {evs:List Evt} (ht:s[t]?=some (nx,b)) (hP:P t=p) (hop:OpIn ops t nx) (e:EvP t nx (Em ops t nx) m b p b' p' nx' evs m'):∃ord',HP ops (s.set t (nx',b')) (upP P t p') (ev++evs) ord' m':=by
 cases e with
 |none=>rw[J5 ht,nS,So hP];exact⟨ord,h⟩
 |begin=>rw[So hP];exact⟨ord,h.begin ht hP hop⟩
 |big hb =>
  have h1:=h.begin ht hP hop
  have hlt:=(lR.1 ht).1
  obtain⟨k,h2⟩:=h1.done (oU hlt) hP hop (a:=⟨2,false,kv0 16⟩) ⟨by rw[hb];rfl,.inr (.inl rfl),λe=>(by cases e),by decide +kernel,.inr rfl⟩ (m':=m) h.mo (λc h1 h2 h3=>by
   rw[YS (by unfold fB;rw[h3,od h2];rfl),h1,hb,pz])
  rw[List.set_set,mj] at h2
  exact⟨_,h2⟩
 |put hT h4 =>
  obtain⟨k,h2⟩:=h.done ht hP hop ⟨by rw[hT];rfl,.inl rfl,λe=>(by cases e),by decide +kernel,.inr rfl⟩ (gO h.mo _) (λc e1 e2 e3=>gN e1 e3 hT h4)
  exact⟨_,h2⟩
 |full hT h4 =>
  obtain⟨k,h2⟩:=h.done ht hP hop ⟨by rw[hT];rfl,.inr (.inr ⟨rfl,h4⟩),λe=>(by cases e),by decide +kernel,.inr rfl⟩ h.mo (λc e1 e2 e3=>cR e2 e3)
  exact⟨_,h2⟩
 |get hT h4 f v e =>
  obtain⟨k,h2⟩:=h.done ht hP hop (YY h.mo hT h4 e) h.mo (λc e1 e2 e3=>TX e1 (by rw[e];exact e3) hT h4)
  exact⟨_,h2⟩
 |told hT h4 f v e =>
  obtain⟨k,h2⟩:=h.told ht hP h4 hT (YY h.mo hT h4 e) (λc e1 e2 e3=>TX e1 (by rw[e];exact e3) hT h4)
  rw[J5 ht,nS]
  exact⟨_,h2⟩
 |fin a=>exact⟨_,h.fin ht hP hop⟩
theorem Nc (p:α->Bool) (l:List α):B7 p l=B7 id (l.map p):=by
 unfold B7
 induction l with
 |nil=>rfl
 |cons x l ih=>rw[ma,oT,oT,ih];rfl
theorem cY (p:α->β) {l:List α} {i:Nat} {x y:α} (h:l[i]?=some x) (e:p y=p x):(l.set i y).map p=l.map p:=by
 apply lY
 intro j
 rw[lS,lS,oC]
 split
 .rename_i h1
  subst h1
  rw[lu (lR.1 h).1,h]
  simp[e]
 .rfl
theorem cZ {b:Nat} (h:b<M.fr.length):M.fr[b]?=some (M.at' b):=by
 unfold Mo.at'
 rw[om,kY h];rfl
theorem YZ {b c:Nat} (h:b<M.fr.length) (y:Vw):(M.put b y).at' c=if c=b then y else M.at' c:=by
 show (M.fr.set b y).getD c BL=_
 rw[om,oC]
 split
 .rename_i e;subst e;rw[lu rfl];rfl
 .rename_i e
  rw[lz (nj e),<-om];rfl
theorem c4 {b:Nat} {y:Vw} (h:b<M.fr.length) (hs:y.st=(M.at' b).st) (hb:y.blk=(M.at' b).blk) (c s:Int):(M.put b y).frI c s=M.frI c s:=by
 have h1:(M.put b y).find c=M.find c:=by
  show B7 (isB c) (M.fr.set b y)=B7 (isB c) M.fr
  rw[Nc,Nc (isB c) M.fr,cY (isB c) (cZ h) (by unfold isB;rw[hs,hb])]
 unfold Mo.frI
 rw[h1]
 cases M.find c with
 |none=>rfl
 |some i =>
  have:((M.put b y).at' i).st=(M.at' i).st:=by
   rw[YZ h]
   split
   .rename_i e;rw[hs,e]
   .rfl
  dsimp only
  rw[this]
theorem gP {b s:Int} (h:M.frI b s=some i):i<M.fr.length:=by
 obtain⟨h1,_⟩:=DI h
 have h2:B7 (isB b) M.fr=some i:=h1
 obtain⟨x,hx,_⟩:=C4 h2
 exact (lR.1 hx).1
structure Two (L:Hm):Prop where
 ld:L.M.loads=[]
 ln:L.M.line=[]
 f:∀b:Nat,b<3->L.M.frI (b:Int) 2=some b
 ll:3<=L.la.length
 us:∀b:Nat,b<3->L.s.us[b]?=some true
 qk:∀i:Nat,1<=i->(L.lat i).q=[]/\(L.lat i).wr = -1
namespace Two
variable {L:Hm}
theorem fi (h:Two L) {b:Nat} (hb:b<3):L.fi (b:Int)=b:=by unfold Hm.fi;rw[h.f b hb];rfl
theorem lt (h:Two L) {b:Nat} (hb:b<3):b<L.M.fr.length:=gP (h.f b hb)
theorem st (h:Two L) {b:Nat} (hb:b<3):(L.M.at' b).st=2:=(DI (h.f b hb)).2
theorem nd (h:Two L) {b:Nat} (hb:b<3):L.nd (b:Int)=(L.M.at' b).nd:=by unfold Hm.nd;rw[h.fi hb]
theorem waits (h:Two L) (t:Int):L.M.waits t=false:=by unfold Mo.waits;rw[h.ld];rfl
theorem stand (h:Two L) (t:Int):L.M.stand t=none:=by unfold Mo.stand;rw[h.ln];rfl
theorem may (h:Two L) {t:Int} (ht:tkB t):L.may t=!decide (t∈(L.lat 0).q.map Prod.fst):=by
 unfold Hm.may Mo.may
 rw[ht,h.waits,h.stand]
 have:L.la.any (λl=>decide (t∈l.q.map Prod.fst))=decide (t∈(L.lat 0).q.map Prod.fst):=by
  rw[mR,nk,mS]
  have hl:=h.ll
  constructor
  .rintro⟨l,hl,hd⟩
   obtain⟨i,hi⟩:=oJ.1 hl
   have e:L.lat i=l:=by unfold Hm.lat;rw[om,hi];rfl
   by_cases h0:i=0
   .subst h0;rw[e];exact oh hd
   .have:=(h.qk i (by omega)).1
    rw[e] at this;rw[this] at hd;simp at hd
  .intro hd
   refine⟨L.lat 0,?_,od hd⟩
   unfold Hm.lat
   rw[om,kY (by omega)]
   exact k7 _
 rw[this];simp
theorem putF (h:Two L) {b:Nat} (hb:b<3) {y:Vw} (hs:y.st=2) (hk:y.blk=(L.M.at' b).blk):Two {L with M:=L.M.put b y}/\∀c:Nat,c<3->({L with M:=L.M.put b y}:Hm).nd c=if c=b then y.nd else L.nd c:=by
 have hf:∀c s:Int,(L.M.put b y).frI c s=L.M.frI c s:=c4 (h.lt hb) (by rw[hs,h.st hb]) hk
 have h2:Two {L with M:=L.M.put b y}:=⟨h.ld,h.ln,λc hc=>by show (L.M.put b y).frI c 2=_;rw[hf];exact h.f c hc,h.ll,h.us,h.qk⟩
 refine⟨h2,λc hc=>?_⟩
 rw[h2.nd hc,h.nd hc]
 show ((L.M.put b y).at' c).nd=_
 rw[YZ (h.lt hb)]
 split<;>rfl
end Two
structure Y0 (L L':Hm):Prop where
 two:Two L'
 nd:∀c:Nat,c<3->L'.nd c=L.nd c
theorem Two.pin {L:Hm} (h:Two L) {t:Int} (ht:tkB t) {b:Nat} (hb:b<3):(L.pin t b).1=1/\Y0 L (L.pin t b).2/\(L.pin t b).2.la=L.la:=by
 have hw:(bkB (b:Int)&&L.M.mayW t b)=true:=by
  unfold bkB Mo.mayW
  rw[ht,h.waits,h.stand,od (show (0:Int)<=b by omega),od (show (b:Int)<256 by omega)];rfl
 have hf:=(DI (h.f b hb)).1
 have hlv:∀M:Mo,M.line=[]->M.leave t=M:=λM hM=>by
  unfold Mo.leave Mo.stand;rw[hM]
  cases M;cases hM;rfl
 have e:L.M.pin t b=(1,L.M.put b {L.M.at' b with pins:=(L.M.at' b).pins+1,ref:=true}):=by
  unfold Mo.pin
  rw[hw,hf]
  dsimp only
  rw[lz (by decide),lu (h.st hb),hlv _ (show (L.M.put b _).line=[] from h.ln)]
 have e2:L.pin t b=(1,{L with M:=L.M.put b {L.M.at' b with pins:=(L.M.at' b).pins+1,ref:=true}}):=by
  unfold Hm.pin
  rw[e];rfl
 obtain⟨h1,h2⟩:=h.putF (y:={L.M.at' b with pins:=(L.M.at' b).pins+1,ref:=true}) hb (h.st hb) rfl
 rw[e2]
 refine⟨rfl,⟨h1,λc hc=>?_⟩,rfl⟩
 rw[h2 c hc]
 split
 .rename_i e;subst e;rw[h.nd hc]
 .rfl
theorem c5 {L:Hm} {m:Lt.La} (hi:i<L.la.length):({L with M:=M,la:=L.la.set i m}:Hm).lat j=if j=i then m else L.lat j:=by
 show (L.la.set i m).getD j Lt.newL=_
 rw[om,oC]
 split
 .rename_i e;subst e;rw[lu rfl];rfl
 .rename_i e;rw[lz (nj e),<-om];rfl
theorem Two.lat {L:Hm} (h:Two L) {i:Nat} (hi:i<3) {m:Lt.La} (hm:1<=i->m.q=[]/\m.wr = -1):Y0 L {L with la:=L.la.set i m}/\∀j,({L with la:=L.la.set i m}:Hm).lat j=if j=i then m else L.lat j:=by
 have hl:=h.ll
 have e:∀j,({L with la:=L.la.set i m}:Hm).lat j=if j=i then m else L.lat j:=λj=>c5 (M:=L.M) (by omega)
 refine⟨⟨⟨h.ld,h.ln,h.f,by show 3<=(L.la.set i m).length;rw[nU];exact hl,h.us,λj hj=>?_⟩,λ_ _=>rfl⟩,e⟩
 rw[e]
 split
 .rename_i e;exact hm (e▸hj)
 .exact h.qk j hj
theorem Two.take {L:Hm} (h:Two L) {t:Int} {i:Nat} (hi:i<3) (w:Bool) (hm:1<=i->(Lt.takeL (L.lat i) t w).q=[]/\(Lt.takeL (L.lat i) t w).wr = -1):Y0 L (L.take i t w)/\∀j,(L.take i t w).lat j=if j=i then Lt.takeL (L.lat i) t w else L.lat j:=h.lat hi hm
theorem Two.leave {L:Hm} (h:Two L) {t:Int} {i:Nat} (hi:i<3) (hm:1<=i->((Lt.dropL (L.lat i) t).2).q=[]/\((Lt.dropL (L.lat i) t).2).wr = -1):Y0 L (L.leave i t i)/\∀j,(L.leave i t i).lat j=if j=i then (Lt.dropL (L.lat i) t).2 else L.lat j:=by
 obtain⟨⟨h1,h2⟩,h3⟩:=h.lat hi hm
 have hu:(L.M.unpin i).2=L.M\/(L.M.unpin i).2=L.M.put i {L.M.at' i with pins:=(L.M.at' i).pins-1}:=by
  unfold Mo.unpin Mo.ready
  rw[h.f i hi]
  dsimp only
  split
  .exact .inl I
  .exact .inr I
 have e:L.leave i t i={({L with la:=L.la.set i (Lt.dropL (L.lat i) t).2}:Hm) with M:=(L.M.unpin i).2}:=rfl
 rw[e]
 rcases hu with hu|hu
 .rw[hu];exact⟨⟨h1,h2⟩,h3⟩
 .rw[hu]
  obtain⟨h4,h5⟩:=h1.putF (y:={L.M.at' i with pins:=(L.M.at' i).pins-1}) hi (h.st hi) rfl
  refine⟨⟨h4,λc hc=>?_⟩,h3⟩
  have:=h5 c hc
  refine this.trans ?_
  split
  .rename_i e;subst e;rw[h.nd hc]
  .exact h2 c hc
theorem Two.setN {L:Hm} (h:Two L) (nd:Nd):Two (L.setN 0 nd)/\(L.setN 0 nd).la=L.la/\∀c:Nat,c<3->(L.setN 0 nd).nd c=if c=0 then nd else L.nd c:=by
 have e:L.setN 0 nd={L with M:=L.M.put 0 {L.M.at' 0 with dirty:=true,nd:=nd}}:=by
  unfold Hm.setN Mo.setN Mo.ready
  rw[show L.M.frI 0 2=some 0 from h.f 0 (by decide)]
 rw[e]
 obtain⟨h1,h2⟩:=h.putF (b:=0) (y:={L.M.at' 0 with dirty:=true,nd:=nd}) (by decide) (h.st (by decide)) rfl
 exact⟨h1,rfl,h2⟩
inductive LS (t:Int):Lt.La->Lt.La->Prop
 |same (m:Lt.La):LS t m m
 |take (m:Lt.La) (w:Bool) (h:t∉Lt.tasks m):LS t m (Lt.takeL m t w)
 |drop (m:Lt.La):LS t m (Lt.dropL m t).2
structure LG (m:Lt.La):Prop where
 ok:∃n,m.Ok n
 sb:Lt.Stable m
theorem LS.ok (ht:0<=t) {m m':Lt.La} (h:LS t m m') (g:LG m):LG m':=by
 obtain⟨⟨n,hn⟩,hs⟩:=g
 cases h with
 |same=>exact⟨⟨n,hn⟩,hs⟩
 |take w hh=>exact⟨⟨n+1,Lt.take_ok hn t w⟩,Lt.take_stable hs t w⟩
 |drop=>exact⟨⟨n,Lt.drop_ok hn t⟩,Lt.drop_stable ht⟩
structure LP (u:Int) (m m':Lt.La):Prop where
 q:∀b,(u,b)∈m.q->(u,b)∈m'.q\/(if b=true then m'.wr=u else u∈m'.rd)
 rd:u∈m.rd->u∈m'.rd
 wr:m.wr=u->m'.wr=u
theorem LS.keeps (ht:0<=t) (hu:0<=u) (hn:u≠t) {m m':Lt.La} (h:LS t m m'):LP u m m':=by
 cases h with
 |same=>exact⟨λ_ h=>.inl h,id,id⟩
 |take w hh=>exact⟨λ_ h=>.inl (Lt.take_q h),Lt.take_rd,Lt.take_wr (by omega)⟩
 |drop=>exact⟨λ_ h=>Lt.drop_q ht (by omega) hn h,Lt.drop_rd ht hn,Lt.drop_wr ht (by omega) hn⟩
theorem LS.tasks (ht:0<=t) {m m':Lt.La} (h:LS t m m') (g:LG m) (hu:u∈Lt.tasks m'):u=t\/u∈Lt.tasks m:=by
 cases h with
 |same=>exact .inr hu
 |take w hh=>exact Lt.take_tasks ht hu
 |drop=>obtain⟨n,hn⟩:=g.ok;exact .inr (Lt.drop_tasks hn ht hu).2
theorem Y1 (ht:0<=t) {m:Lt.La} (g:LG m) (hq:m.q=[]/\m.wr = -1) (hn:t∉Lt.tasks m):(Lt.takeL m t false).q=[]/\(Lt.takeL m t false).wr = -1/\t∈(Lt.takeL m t false).rd:=by
 obtain⟨n,hk⟩:=g.ok
 have hm:Lt.mayB m t=true:=by rw[hk.toOk0.may t ht];exact od hn
 have ho:Lt.openB m false=true:=Lt.openB_iff.2 ⟨hq.2,λh=>by cases h⟩
 have e:Lt.takeL m t false=Lt.giveL m t false:=by
  unfold Lt.takeL Lt.tryB
  rw[hm,ho,hq.1];rfl
 rw[e]
 exact⟨hq.1,hq.2,Lt.ins_mem.2 (.inl I)⟩
theorem Y2 (ht:0<=t) {m:Lt.La} (hq:m.q=[]/\m.wr = -1):((Lt.dropL m t).2).q=[]/\((Lt.dropL m t).2).wr = -1:=by
 unfold Lt.dropL Lt.letL Lt.leaveL
 rw[lz (by omega)]
 dsimp only
 rw[hq.1,hq.2]
 show []=[]/\(if (-1:Int)=t then (-1:Int) else -1) = -1
 exact⟨rfl,by split<;>rfl⟩
structure Tld (x:HM):Prop where
 n8:x.cs.length<=8
 tn:x.T.n=x.cs.length+(x.nf+1)
 tl:x.T.st.length=x.T.n
 told:∀i,i<x.T.n->x.T.st.getD i 0=stI x i
theorem tellT_st (m:HM) (i:Nat):∀(k:Nat) (T:Sc.Tab),k<=T.n->T.st.length=T.n->(kC m k T).st.length=T.n/\(kC m k T).st.getD i 0=if i<k then (if T.st.getD i 0=2 then 2 else stI m i) else T.st.getD i 0
 |0,T,_,hl=>⟨hl,by simp[kC]⟩
 |k+1,T,hk,hl=>by
  obtain⟨h1,h2⟩:=tellT_st m i k T (by omega) hl
  have hn:=tellT_n m k T
  show (Sc.kJ (kC m k T) (k:Int) (stI m k)).st.length=_/\(Sc.kJ (kC m k T) (k:Int) (stI m k)).st.getD i 0=_
  unfold Sc.kJ
  split
  .rename_i hc
   refine⟨by show ((kC m k T).st.set _ _).length=_;rw[nU];exact h1,?_⟩
   show ((kC m k T).st.set (k:Int).toNat (stI m k)).getD i 0=_
   rw[Sc.getD_set,mV,h1]
   by_cases e:k=i
   .subst e
    rw[lu ⟨rfl,by omega⟩,lu (by omega)]
    have hc2:=hc.2.2
    rw[mV,h2,lz (by omega)] at hc2
    rw[lz hc2]
   .rw[lz (by simp[e]),h2]
    by_cases e2:i<k
    .rw[lu e2,lu (show i<k+1 by omega)]
    .rw[lz e2,lz (show ¬i<k+1 by omega)]
  .rename_i hc
   refine⟨h1,?_⟩
   rw[h2]
   by_cases e:k=i
   .subst e
    rw[lz (by omega),lu (by omega)]
    have h3:(kC m k T).st.getD k 0=2:=pA (λh3=>hc ⟨by omega,by rw[hn];omega,by rw[mV];exact h3⟩)
    rw[h2,lz (by omega)] at h3
    rw[h3,lu rfl]
   .by_cases e2:i<k
    .rw[lu e2,lu (show i<k+1 by omega)]
    .rw[lz e2,lz (show ¬i<k+1 by omega)]
theorem c6 {d:Cl} (h:x.cs[i]?=some d) (he:d.ended):stI x i=2:=by
 have he2:=he
 unfold Cl.ended at he2
 simp only[mz,mS] at he2
 have hm:mayI x i=false:=by
  unfold mayI;rw[h]
  show mayC _ _ d=false
  unfold mayC
  obtain⟨ops,nx,ph⟩:=d
  cases ph with
  |idle =>
   have h2:nx=ops.length:=he2.2
   simp[h2]
  |rd r=>exact absurd he2.1 (by show ¬false=true;decide)
  |wr v=>exact absurd he2.1 (by show ¬false=true;decide)
 unfold stI
 rw[hm,lz pt,h]
 show (if d.ended=true then _ else _)=_
 rw[lu he]
theorem EZ {t:Nat} {c:Cl} (hc:x.cs[t]?=some c) {L':Hm} {c':Cl} {b:Bool} {evs:List Evt} (e:kE (t:Int) x.sq x.L c=(L',c',b,evs)):x.client t={x with L:=L',cs:=x.cs.set t c',sq:=Jb b x.sq,ev:=x.ev++evs}:=by
 unfold HM.client;rw[hc];dsimp only;rw[e]
theorem gQ (h:stI x i=2):∃d,x.cs[i]?=some d/\d.ended=true:=by
 unfold stI at h
 split at h
 .cases h
 .split at h
  .rename_i d hd
   split at h
   .rename_i he;exact⟨d,hd,he⟩
   .cases h
  .cases h
theorem T5 (m:HM) (T:Sc.Tab) (q:Nat):∀(k:Nat) (U:Sc.Tab),kC {m with T:=T,pk:=q} k U=kC m k U
 |0,_=>rfl
 |k+1,U=>by show Sc.kJ (kC {m with T:=T,pk:=q} k U) _ _=Sc.kJ (kC m k U) _ _;rw[T5 m T q k U];rfl
theorem Tld.pre (h:Tld x) (hv:DF x.L.look=false) {u:Nat} (hu:u∈Sc.kG x.T):∃c,x.cs[u]?=some c/\mayC (u:Int) x.L c=true:=by
 have hlt:=Sc.runM_lt hu
 have h0:x.T.st.getD u 0=0:=by
  unfold Sc.kG at hu
  simpa using (oD.1 hu).2
 rw[h.told u hlt] at h0
 unfold stI at h0
 split at h0
 .rename_i hm
  unfold mayI at hm
  cases hc:x.cs[u]? with
  |none =>
   rw[hc] at hm
   have hm2:(decide (u<x.cs.length+x.nf)&&DF x.L.look)=true:=hm
   rw[hv,oP] at hm2
   cases hm2
  |some c=>rw[hc] at hm;exact⟨c,rfl,hm⟩
 .split at h0
  .split at h0<;>cases h0
  .cases h0
theorem Tld.step (h:Tld x) (hv:DF x.L.look=false) (p:Int):(kF x p=x/\Sc.kG x.T=[])\/∃(t:Nat) (c:Cl) (T':Sc.Tab),t=Sc.whoM x.T p/\x.cs[t]?=some c/\mayC (t:Int) x.L c=true/\kF x p={x.client t with T:=T',pk:=x.pk+1}/\Tld (kF x p):=by
 by_cases hr:Sc.kG x.T=[]
 .exact .inl ⟨by unfold kF;rw[lu hr],hr⟩
 .have hmem:=Sc.who_mem p hr
  have h0:x.T.st.getD (Sc.whoM x.T p) 0=0:=by
   unfold Sc.kG at hmem
   simpa using (oD.1 hmem).2
  obtain⟨c,hc,hm⟩:=h.pre hv hmem
  obtain⟨t,ht⟩:∃t,t=Sc.whoM x.T p:=⟨_,rfl⟩
  rw[<-ht] at hc hm h0
  obtain⟨⟨L',c',b,evs⟩,e⟩:∃q,kE (t:Int) x.sq x.L c=q:=⟨_,rfl⟩
  have hcl:=EZ hc e
  have hcs:(x.client t).cs=x.cs.set t c':=by rw[hcl]
  have hnf:(x.client t).nf=x.nf:=by rw[hcl]
  have hs:kF x p={x.client t with T:=kC (x.client t) x.T.n (Sc.kD x.T p),pk:=x.pk+1}:=by
   unfold kF
   rw[lz hr,<-ht]
   have e1:({x with T:=Sc.kD x.T p,pk:=x.pk+1}:HM).client t={x.client t with T:=Sc.kD x.T p,pk:=x.pk+1}:=by
    rw[hcl];exact EZ (x:={x with T:=Sc.kD x.T p,pk:=x.pk+1}) hc e
   rw[e1]
   show ({x.client t with T:=kC {x.client t with T:=Sc.kD x.T p,pk:=x.pk+1} x.T.n (Sc.kD x.T p),pk:=x.pk+1}:HM)=_
   rw[T5]
  refine .inr ⟨t,c,_,ht,hc,hm,hs,?_⟩
  rw[hs]
  have hst:=Lo.pick_st x.T p
  have hn:=Sc.pick_n x.T p
  have hl:(Sc.kD x.T p).st.length=(Sc.kD x.T p).n:=by rw[hst,hn];exact h.tl
  refine⟨by show (x.client t).cs.length<=8;rw[hcs,nU];exact h.n8,?_,?_,λi hin=>?_⟩
  .show (kC _ _ _).n=(x.client t).cs.length+((x.client t).nf+1)
   rw[tellT_n,hn,h.tn,hcs,hnf,nU]
  .show (kC _ _ _).st.length=(kC _ _ _).n
   rw[tellT_n,(tellT_st _ 0 _ _ (by rw[hn];exact lJ _) hl).1]
  .have hin2:i<x.T.n:=by
    have:i<(kC _ x.T.n (Sc.kD x.T p)).n:=hin
    rw[tellT_n,hn] at this;exact this
   show (kC _ _ _).st.getD i 0=stI (x.client t) i
   rw[(tellT_st (x.client t) i x.T.n (Sc.kD x.T p) (by rw[hn];exact lJ _) hl).2,lu hin2,hst]
   split
   .rename_i h2
    have hit:i≠t:=λe2=>by subst e2;rw[h0] at h2;cases h2
    rw[h.told i hin2] at h2
    obtain⟨d,hd,he⟩:=gQ h2
    exact (c6 (by rw[hcs,po (nj hit)];exact hd) he).symm
   .rfl
theorem Tld.run (h:Tld x) {t:Nat} {c:Cl} (hc:x.cs[t]?=some c) (hm:mayC (t:Int) x.L c):Sc.kG x.T≠[]:=λhr=>by
 have hlt:t<x.T.n:=by have:=(lR.1 hc).1;have:=h.tn;omega
 have hmem:t∈Sc.kG x.T:=by
  unfold Sc.kG
  refine oD.2 ⟨lQ.2 hlt,?_⟩
  rw[h.told t hlt]
  unfold stI mayI
  rw[hc]
  show decide ((if mayC (t:Int) x.L c=true then (0:Int) else _)=0)=true
  rw[lu hm];rfl
 rw[hr] at hmem;cases hmem
theorem gR {m:Lt.La} (g:LG m) {t:Int} (hq:t∈m.q.map Prod.fst):∃u,u∈Lt.tasks m/\u∉m.q.map Prod.fst:=by
 obtain⟨n,hn⟩:=g.ok
 have hnd:=hn.nd
 obtain⟨x,q,hxq⟩:∃x q,m.q=x::q:=by
  cases hq2:m.q with
  |nil=>rw[hq2] at hq;simp at hq
  |cons x q=>exact⟨x,q,rfl⟩
 have hst:=g.sb x q hxq
 unfold Lt.tasks at hnd ⊢
 by_cases hw:0<=m.wr
 .rw[lu hw] at hnd ⊢
  refine⟨m.wr,by simp,λhm=>?_⟩
  have:=(nH.1 hnd).1
  exact this (nK m.rd hm)
 .rw[lz hw] at hnd ⊢
  have hw1:m.wr = -1:=by have:=hn.wr;omega
  have hrd:m.rd≠[]:=λhr=>by
   have:Lt.openB m x.2=true:=Lt.openB_iff.2 ⟨hw1,λ_=>hr⟩
   rw[hst] at this;cases this
  obtain⟨u,us,hr⟩:=List.exists_cons_of_ne_nil hrd
  refine⟨u,by rw[hr];simp,λhm=>?_⟩
  rw[mw,nJ] at hnd
  exact hnd.2.2 u (by rw[hr];simp) u hm I
theorem VJ {z:Int} (h0:0<=z) (h1:z<18446744073709551616):num ((Kr z).b.take 8)=z:=Wx z h0 h1
theorem VK (u:Kv 16) (a b:Int):CX (CX u a) b=CX u (IntKind.u64.wrap (b+a)):=by
 unfold CX
 have h:=SY (num (u.b.take 8)+a)
 rw[VJ h.1 h.2]
 congr 1
 rw[Rj,Rk]
 congr 1
 omega
theorem LI (u:Kv 16) (a:Int):vck (CX u a)=true:=Jv _
theorem G0 {m:Ms} (h:mck m):kck m.key=true:=by unfold mck at h;rw[mz] at h;exact h.1
def mput (b:Ms) (v:Kv 16):Ms:={b with kind:=1,val:=v,by':=0,wk:=by decide,wy:=by decide}
def gS (b:Ms) (z:Int):Ms:={b with by':=IntKind.u64.wrap z,wy:=GW _}
theorem T6 (h:¬b.kind=3):mco a b=b:=by unfold mco;rw[lu (.inl h)]
theorem Y3 (h:b.kind=3) (hk:a.key=b.key) (h2:a.kind=2):mco a b=mput b (CX (kv0 16) b.by'):=by
 unfold mco;rw[lz (by rintro (e|e);exact e h;exact e hk),lu h2];rfl
theorem Y4 (h:b.kind=3) (hk:a.key=b.key) (h2:a.kind=1):mco a b=mput b (CX a.val b.by'):=by
 unfold mco;rw[lz (by rintro (e|e);exact e h;exact e hk),lz (by omega),lu h2];rfl
theorem Y5 (h:b.kind=3) (hk:a.key=b.key) (h2:a.kind=3):mco a b=gS b (b.by'+a.by'):=by
 unfold mco;rw[lz (by rintro (e|e);exact e h;exact e hk),lz (by omega),lz (by omega),lu h2];rfl
theorem jB (ha:mck a) (hb:mck b) (hk:a.key=b.key):mck (mco a b)=true:=by
 by_cases h:b.kind=3
 .have hbk:=G0 hb
  have hbv:=ah hb h
  rcases MB ha with h1|h1|h1
  .rw[Y4 h hk h1];unfold mck;simp[mput,hbk,LI]
  .rw[Y3 h hk h1];unfold mck;simp[mput,hbk,LI]
  .rw[Y5 h hk h1];unfold mck;simp[gS,hbk,h,hbv]
 .rw[T6 h];exact hb
theorem jC {x y:Ms} (hx:mck x) (hy:mck y) (hk:x.key=y.key) (v:Kv 16) (t:Bool):Cp (Cp v t x).1 (Cp v t x).2 y=Cp v t (mco x y):=by
 by_cases h:y.kind=3
 .rcases MB hx with h1|h1|h1
  .rw[Y4 h hk h1];simp[Cp,mput,h,h1]
  .rw[Y3 h hk h1];simp[Cp,mput,h,h1]
  .rw[Y5 h hk h1];simp[Cp,gS,h,h1,VK]
 .rw[T6 h];simp[Cp,h]
section
variable {α:Type} {f:α->Kv 8}
abbrev QM (f:α->Kv 8) (l:List α) (k:Kv 8) (ys:List α):List α:=l.take (Cf f l k)++ys++l.drop (Cf f l k+(if gis f l k=true then 1 else 0))
theorem c7 {l:List α} (hr:BE f l) {x:α} (hx:x∈l):l[Cf f l (f x)]?=some x:=by
 obtain⟨j,hj⟩:=oJ.1 hx
 have h1:¬j<Cf f l (f x):=λh=>by
  have:=JZ h hj
  rw[DA] at this;exact absurd this (by decide)
 rcases k6 (Cf f l (f x)) j with h2|h2
 .obtain⟨d,hd⟩:∃d,l[Cf f l (f x)]?=some d:=⟨_,kY (by have:=(lR.1 hj).1;omega)⟩
  exact absurd (D5 hr _ _ d x h2 hd hj) (NZ hr (lJ _) hd)
 .rw[show Cf f l (f x)=j by omega];exact hj
theorem jD {l:List α} (hr:BE f l) {x:α} (hx:x∈l):gis f l (f x)=true:=by
 unfold gis;rw[c7 hr hx];exact od rfl
theorem QN {l:List α} (hr:BE f l) (k:Kv 8) {y:α}:y∈l.take (Cf f l k)\/y∈l.drop (Cf f l k+(if gis f l k=true then 1 else 0))↔y∈l/\f y≠k:=by
 constructor
 .rintro (h|h)
  .refine⟨kZ h,λe=>?_⟩
   obtain⟨j,hj⟩:=oJ.1 h
   rw[lr] at hj
   split at hj
   .rename_i hlt
    have:=JZ hlt hj
    rw[e,DA] at this;exact absurd this (by decide)
   .cases hj
  .have hl:=List.mem_of_mem_drop h
   refine⟨hl,λe=>?_⟩
   have h1:=jD hr hl
   have h2:=c7 hr hl
   rw[e] at h1 h2
   rw[lu h1] at h
   obtain⟨j,hj⟩:=oJ.1 h
   rw[ly] at hj
   have:=D5 hr _ _ y y (by omega) h2 hj
   rw[DA] at this;exact absurd this (by decide)
 .rintro⟨h,hn⟩
  rw[<-my (Cf f l k) l] at h
  rcases mT.1 h with h|h
  .exact .inl h
  .refine .inr ?_
   by_cases hg:gis f l k=true
   .rw[lu hg]
    obtain⟨e,h1,h2⟩:=N1 hg
    rw[kV (lR.1 h1).1] at h
    rcases kN.1 h with h3|h3
    .rw[(lR.1 h1).2] at h3;exact absurd (h3▸h2) hn
    .exact h3
   .rw[lz hg];exact h
theorem T7 {l:List α} (hr:BE f l) (k:Kv 8) (ys:List α) {y:α}:y∈QM f l k ys↔(y∈l/\f y≠k)\/y∈ys:=by
 rw[<-QN hr k]
 simp only[QM,mT]
 exact⟨λh=>h.elim (λh=>h.elim (λh=>.inl (.inl h)) .inr) (λh=>.inl (.inr h)),λh=>h.elim (λh=>h.elim (λh=>.inl (.inl h)) .inr) (λh=>.inl (.inr h))⟩
theorem Y6 {l:List α} (hr:BE f l) (hk:∀e∈l,kck (f e)=true) {k:Kv 8} (hm:kck k) {ys:List α} (hy:ys=[]\/∃y,ys=[y]/\f y=k):BE f (QM f l k ys):=by
 have hnew:∀b∈ys,f b=k:=λb hb=>by
  rcases hy with rfl|⟨y,rfl,e⟩
  .cases hb
  .simp at hb;rw[hb,e]
 have hlow:∀a∈l.take (Cf f l k),Bq (f a) k<0:=λa ha=>by
  obtain⟨j,hj⟩:=oJ.1 ha
  rw[lr] at hj
  split at hj
  .rename_i hlt;exact JZ hlt hj
  .cases hj
 have hhigh:∀b∈l.drop (Cf f l k+(if gis f l k=true then 1 else 0)),Bq k (f b)<0:=λb hb=>by
  obtain⟨h1,h2⟩:=(QN hr k).1 (.inr hb)
  obtain⟨j,hj⟩:=oJ.1 hb
  rw[ly] at hj
  have hge:=NZ (k:=k) hr (by omega) hj
  have hne:Bq k (f b)≠0:=λh0=>h2 (SV hm (hk b h1) (Gu h0)).symm
  have:=Fe (f b) k
  omega
 unfold QM
 rw[mj]
 refine pg.2 ⟨hr.sublist (pj _ _),pg.2 ⟨?_,hr.sublist (List.drop_sublist _ _),λa ha b hb=>by rw[hnew a ha];exact hhigh b hb⟩,λa ha b hb=>?_⟩
 .rcases hy with rfl|⟨y,rfl,_⟩
  .exact List.Pairwise.nil
  .exact List.pairwise_singleton _ _
 .rcases mT.1 hb with h|h
  .rw[hnew b h];exact hlow a ha
  .exact E7 (hlow a ha) (mi (hhigh b h))
end
theorem FV {l:List En} (hr:BG l) {e:En} (he:e∈l):AN l e.key=(e.val,true):=by
 have h:l[Cd l e.key]?=some e:=c7 (f:=En.key) hr he
 unfold AN;rw[h];exact lu rfl
theorem IB (l:List En) (k:Kv 8):(∃e∈l,e.key=k/\AN l k=(e.val,true))\/AN l k=(kv0 16,false):=by
 cases h:lis l k with
 |true =>
  obtain⟨e,h1,h2,h3⟩:=NW h
  exact .inl ⟨e,mQ h1,h2,h3⟩
 |false=>exact .inr (Ru h)
theorem Y7 {l:List En} {k:Kv 8} (h:∀e∈l,e.key≠k):AN l k=(kv0 16,false):=by
 rcases IB l k with⟨e,h1,h2,_⟩|h1
 .exact absurd h2 (h e h1)
 .exact h1
theorem EE {l l':List En} (hr:BG l) (hr':BG l') {k:Kv 8} (h:∀e:En,e.key=k->(e∈l↔e∈l')):AN l k=AN l' k:=by
 rcases IB l k with⟨e,h1,h2,h3⟩|h1
 .have:=FV hr' ((h e h2).1 h1)
  rw[h2] at this
  rw[h3,this]
 .rcases IB l' k with⟨e,h2,h3,h4⟩|h2
  .have:=FV hr ((h e h3).2 h2)
   rw[h3,h1] at this;exact absurd (congrArg Prod.snd this) (by simp)
  .rw[h1,h2]
theorem c8 (l:List En) (k:Kv 8):lis l k=gis En.key l k:=by
 unfold lis gis
 rw[show Cd l k=Cf En.key l k from rfl]
 cases l[Cf En.key l k]?<;>rfl
theorem Y8 (l:List En) (m:Ms):Bs l m=QM En.key l m.key (CY l m):=by
 unfold Bs QM
 rw[c8];rfl
theorem Ep {l:List En} (hr:BG l) (m:Ms) {e:En}:e∈Bs l m↔(e∈l/\e.key≠m.key)\/e∈CY l m:=by rw[Y8];exact T7 (f:=En.key) hr m.key (CY l m)
theorem LJ {l:List En} {m:Ms} {e:En} (h:e∈CY l m):e.key=m.key:=by
 unfold CY at h
 split at h
 .simp at h;rw[h]
 .cases h
theorem gT {v:Kv 16} {t:Bool} {m:Ms} (h:(Cp v t m).2=false):Cp v t m=(kv0 16,false):=by
 unfold Cp at h ⊢
 split
 .rename_i h1;rw[lu h1] at h;cases h
 .rename_i h1
  rw[lz h1] at h
  split
  .rename_i h2;rw[lu h2] at h;cases h
  .rfl
theorem Jl {l:List En} (hr:BG l) {m:Ms} (hr':BG (Bs l m)) (k:Kv 8):AN (Bs l m) k=if k=m.key then Cp (AN l m.key).1 (AN l m.key).2 m else AN l k:=by
 split
 .rename_i e
  subst e
  cases h:(Cp (AN l m.key).1 (AN l m.key).2 m).2 with
  |true =>
   have h1:(⟨m.key,(Cp (AN l m.key).1 (AN l m.key).2 m).1⟩:En)∈Bs l m:=(Ep hr m).2 (.inr (by unfold CY;rw[h,lu rfl];exact nq.2 rfl))
   rw[FV hr' h1,<-h]
  |false =>
   rw[gT h]
   refine Y7 (λe he=>?_)
   rcases (Ep hr m).1 he with⟨_,h1⟩|h1
   .exact h1
   .unfold CY at h1;rw[h] at h1;cases h1
 .rename_i hn
  refine EE hr' hr (λe he=>?_)
  rw[Ep hr]
  constructor
  .rintro (h|h)
   .exact h.1
   .exact absurd (he▸LJ h) hn
  .exact λh=>.inl ⟨h,by rw[he];exact hn⟩
def Fl (l:List Ms) (k:Kv 8):Option Ms:=if gis Ms.key l k=true then some (l.getD (Cf Ms.key l k) ms0) else none
theorem Dv {l:List Ms} (hr:BE Ms.key l) {k:Kv 8} {x:Ms}:Fl l k=some x↔x∈l/\x.key=k:=by
 unfold Fl
 constructor
 .intro h
  split at h
  .rename_i hg
   obtain⟨e,h1,h2⟩:=N1 hg
   rw[Io h1] at h;cases h
   exact⟨mQ h1,h2⟩
  .cases h
 .rintro⟨h,rfl⟩
  rw[lu (jD hr h),Io (c7 hr h)]
theorem IC {l:List Ms} (hr:BE Ms.key l) {k:Kv 8}:Fl l k=none↔∀x∈l,x.key≠k:=by
 constructor
 .intro h x hx e
  rw[(Dv hr).2 ⟨hx,e⟩] at h;cases h
 .intro h
  cases hb:Fl l k with
  |none=>rfl
  |some x=>exact absurd ((Dv hr).1 hb).2 (h x ((Dv hr).1 hb).1)
theorem c9 (a b:Ms):(mco a b).key=b.key:=by unfold mco;split<;>(try split)<;>(try split)<;>(try split)<;>rfl
def Ow (l:List Ms) (m:Ms):Ms:=match Fl l m.key with|some a=>mco a m|none=>m
theorem LK (l:List Ms) (m:Ms):(Ow l m).key=m.key:=by unfold Ow;split;exact c9 _ _;rfl
theorem T8 (l:List Ms) (m:Ms):C9 l m=QM Ms.key l m.key [Ow l m]:=by
 unfold C9 Ow Fl QM
 cases h:gis Ms.key l m.key<;>rfl
theorem Nf {l:List Ms} (hr:BE Ms.key l) (hk:∀e∈l,mck e=true) {m:Ms} (hm:mck m):BE Ms.key (C9 l m):=by
 rw[T8]
 exact Y6 hr (λe he=>G0 (hk e he)) (G0 hm) (.inr ⟨_,rfl,LK _ _⟩)
theorem ID {l:List Ms} (hr:BE Ms.key l) (m:Ms) {x:Ms}:x∈C9 l m↔(x∈l/\x.key≠m.key)\/x=Ow l m:=by
 rw[T8,T7 hr,nq]
theorem Y9 {l:List Ms} (hr:BE Ms.key l) {m:Ms} (hr':BE Ms.key (C9 l m)) (k:Kv 8):Fl (C9 l m) k=if k=m.key then some (Ow l m) else Fl l k:=by
 split
 .rename_i e
  exact (Dv hr').2 ⟨(ID hr m).2 (.inr I),by rw[LK,e]⟩
 .rename_i hn
  cases h:Fl l k with
  |some x =>
   obtain⟨h1,h2⟩:=(Dv hr).1 h
   exact (Dv hr').2 ⟨(ID hr m).2 (.inl ⟨h1,by rw[h2];exact hn⟩),h2⟩
  |none =>
   refine (IC hr').2 (λx hx=>?_)
   rcases (ID hr m).1 hx with⟨h1,_⟩|h1
   .exact (IC hr).1 h x h1
   .rw[h1,LK];exact nj hn
theorem da {l:List Ms} (hr:BE Ms.key l) (hk:∀e∈l,mck e=true) {m:Ms} (hm:mck m):mck (Ow l m)=true:=by
 unfold Ow
 split
 .rename_i a h
  obtain⟨h1,h2⟩:=(Dv hr).1 h
  exact jB (hk a h1) hm h2
 .exact hm
theorem dd {l:List Ms} (hr:BE Ms.key l) (hk:∀e∈l,mck e=true) {m:Ms} (hm:mck m):∀e∈C9 l m,mck e=true:=λe he=>by
 rcases (ID hr m).1 he with⟨h,_⟩|h
 .exact hk e h
 .rw[h];exact da hr hk hm
def QO (e1 e2:List En) (pv k:Kv 8):List En:=if Bq pv k<=0 then e2 else e1
def Za (p:Kv 16×Bool):Option Ms->Kv 16×Bool
 |some a=>Cp p.1 p.2 a
 |none=>p
def Ng (e1 e2:List En) (pv:Kv 8) (ms:List Ms) (k:Kv 8):Kv 16×Bool:=Za (AN (QO e1 e2 pv k) k) (Fl ms k)
structure MR (e1 e2:List En) (pv:Kv 8) (ms:List Ms) (m:List En):Prop where
 r:BG m
 k:∀e∈m,kck e.key=true
 f:∀k,AN m k=Ng e1 e2 pv ms k
theorem VL {l:List En} (hr:BG l) (hk:∀e∈l,kck e.key=true) {m:Ms} (hm:kck m.key):∀e∈Bs l m,kck e.key=true:=λe he=>by
 rcases (Ep hr m).1 he with⟨h,_⟩|h
 .exact hk e h
 .rw[LJ h];exact hm
theorem MR.put {ms:List Ms} {m:List En} (h:MR e1 e2 pv ms m) (hr:BE Ms.key ms) (hc:∀e∈ms,mck e=true) {z z':Ms} (hz:mck z) (hzk:z.key=z'.key) (hzm:∀v t,Cp v t z=Cp v t z') (hl:Bs m z'=Bs m z):MR e1 e2 pv (C9 ms z) (Bs m z'):=by
 have hk:=G0 hz
 have hr1:BG (Bs m z'):=El h.r h.k (by rw[<-hzk];exact hk)
 refine⟨hr1,VL h.r h.k (by rw[<-hzk];exact hk),λk=>?_⟩
 rw[Jl h.r hr1]
 unfold Ng
 rw[Y9 hr (Nf hr hc hz)]
 split
 .rename_i e
  rw[lu (by rw[e,hzk]),h.f]
  subst e
  unfold Ng Ow
  rw[<-hzk]
  cases hb:Fl ms z.key with
  |none=>show Cp _ _ z'=Cp _ _ z;rw[hzm];rfl
  |some a =>
   obtain⟨h1,h2⟩:=(Dv hr).1 hb
   show Cp _ _ z'=Cp _ _ (mco a z)
   rw[<-jC (hc a h1) hz h2,<-hzm];rfl
 .rename_i hn
  rw[lz (by rw[hzk];exact hn)]
  exact h.f k
theorem QP {es:List En} (hr:BG es) {n:Nat} {x:En} (hx:es[n]?=some x):(∀e∈es.take n,Bq e.key x.key<0)/\∀e∈es.drop n,¬Bq e.key x.key<0:=by
 refine⟨λe he=>?_,λe he=>?_⟩
 .obtain⟨j,hj⟩:=oJ.1 he
  rw[lr] at hj
  split at hj
  .rename_i hlt;exact D5 hr _ _ e x hlt hj hx
  .cases hj
 .obtain⟨j,hj⟩:=oJ.1 he
  rw[ly] at hj
  rcases lN j with h|h
  .subst h
   rw[nB,hx] at hj;cases hj
   rw[DA];decide
  .have:=D5 hr _ _ x e (by omega) hx hj
   have h2:=Fe e.key x.key
   omega
theorem MR.split {es:List En} (hr:BG es) (hk:∀e∈es,kck e.key=true) {n:Nat} {x:En} (hx:es[n]?=some x):MR (es.take n) (es.drop n) x.key [] es:=by
 obtain⟨hlo,hhi⟩:=QP hr hx
 refine⟨hr,hk,λk=>?_⟩
 have hb:Fl [] k=none:=rfl
 unfold Ng QO
 rw[hb]
 show AN es k=AN (if Bq x.key k<=0 then es.drop n else es.take n) k
 have hm:∀e:En,e∈es↔e∈es.take n\/e∈es.drop n:=λe=>by rw[<-mT,my]
 have hneg:=Fe k x.key
 split
 .rename_i h
  refine EE hr (hr.sublist (List.drop_sublist ..)) (λe he=>?_)
  rw[hm]
  refine⟨λh1=>h1.elim (λh2=>?_) id,.inr⟩
  have:=hlo e h2
  rw[he] at this
  omega
 .rename_i h
  refine EE hr (hr.sublist (pj ..)) (λe he=>?_)
  rw[hm]
  refine⟨λh1=>h1.elim id (λh2=>?_),.inl⟩
  have:=hhi e h2
  rw[he] at this
  omega
open Lo (Lf)
theorem de (k:Nat):(st1 (k+3)).al 2=([1,2],(((((st1 (k+3)).alloc 1).put 1 bkL).alloc 2).put 2 bkL)):=rfl
theorem VM (h1:1<=n) (h:¬(st1 n).left<2):∃k,n=k+3:=by
 match n,h1 with
 |1,_=>exact absurd (by decide) h
 |2,_=>exact absurd (by decide) h
 |k+3,_=>exact⟨k,rfl⟩
structure Gr (L:Lf) (t:Int):Prop where
 ok:L.Ok
 tk:tkB t=true
 st:L.r.st=2
 wr:L.la.wr=t
 ld:L.ld=[]
 q:t∉L.la.q.map Prod.fst
 s:∃k,L.s=st1 (k+3)
 sl:2<=L.s.left
 l2:2<=L.r.nd.es.length
theorem Gr.es {L:Lf} (h:Gr L t):∃es,L.r.nd=Lo.lfd es/\BG es/\Cv (Lo.lfd es)=true:=h.ok.nd h.st
theorem Gr.has {L:Lf} (h:Gr L t):De L.la t=true:=by unfold De;rw[od h.wr,Bool.true_or]
theorem Gr.mayH {L:Lf} (h:Gr L t):L.mayH t=true:=by
 unfold Lf.mayH
 rw[Lf.may_iff,h.ld,h.tk,oc h.q];rfl
theorem Gr.claim {L:Lf} (h:Gr L t) (hc:L.cl<=1):Gr (L.claim t) t:=⟨h.ok.claim_ok t hc,h.tk,h.st,h.wr,h.ld,h.q,h.s,h.sl,h.l2⟩
def pvt (L:Lf):Kv 8:=(L.r.nd.es.getD (spl L.r.nd.es) en0).key
def ndR (L:Lf):Nd:=⟨false,[],[((1:Nat):Int),((2:Nat):Int)],[pvt L],[]⟩
def gH (L:Lf) (s:Sto) (nd:Nd):Hm:=⟨⟨{L.r with dirty:=true,nd:=nd}::⟨2,((1:Nat):Int),0,0,true,true,lfN (L.r.nd.es.take (spl L.r.nd.es))⟩::⟨2,((2:Nat):Int),0,0,true,true,lfN (L.r.nd.es.drop (spl L.r.nd.es))⟩::List.replicate (L.n-3) BL,[],[],0⟩,s,L.las,L.rds⟩
theorem jE {L:Lf} (h5:5<=L.n) (hc:L.cl=2):L.rest=Lo.cf L.ct::Lo.cf L.ct::List.replicate (L.n-3) BL:=by
 unfold Lf.rest
 rw[hc]
 show Lo.cf L.ct::Lo.cf L.ct::List.replicate (L.n-1-2) BL=_
 rw[show L.n-1-2=L.n-3 by omega]
theorem Gr.ids {L:Lf} (h:Gr L t):(eL L).ids=(1,2):=by
 obtain⟨k,hk⟩:=h.s
 unfold Hm.ids
 show ((L.s.al 2).1.getD 0 0,(L.s.al 2).1.getD 1 0)=_
 rw[hk,de];rfl
theorem Gr.grow {L:Lf} (h:Gr L t) (hc:L.cl=2) (hct:L.ct=t):(eL L).grow t=gH L (L.s.al 2).2 (ndR L):=by
 have hids:=h.ids
 have hnd:(eL L).nd 0=L.r.nd:=Iu h.ok h.st
 unfold Hm.grow
 rw[hids,hnd]
 have hb0:L.r.blk=0:=h.ok.blk (by rw[h.st];decide)
 have hI0:isB 0 L.r=true:=by unfold isB;rw[hb0,h.st];rfl
 have hsn:∀nd:Nd,L.M.setN 0 nd=(true,⟨{L.r with dirty:=true,nd:=nd}::L.rest,[],[],0⟩):=λnd=>by
  have hf:L.M.frI 0 2=some 0:=Qk h.ok h.st
  unfold Mo.setN Mo.ready
  rw[hf]
  show (true,(⟨(L.r::L.rest).set 0 {L.r with dirty:=true,nd:=nd},L.ld.map (λt=>(t,0)),[],0⟩:Mo))=_
  rw[h.ld];rfl
 have h1:({(eL L) with s:=((eL L).s.al 2).2}:Hm).setN 0 ⟨false,[],[((1:Nat):Int),((2:Nat):Int)],[(L.r.nd.es.getD (spl L.r.nd.es) en0).key],[]⟩=⟨⟨{L.r with dirty:=true,nd:=ndR L}::L.rest,[],[],0⟩,(L.s.al 2).2,L.las,L.rds⟩:=by
  show (⟨(L.M.setN 0 _).2,(L.s.al 2).2,L.las,L.rds⟩:Hm)=_
  rw[hsn];rfl
 rw[h1,jE h.ok.n5 hc,hct]
 have hfr:∀(b:Nat) (l:List Vw),(∀f∈l,isB (b:Int) f=false)->B7 (isB (b:Int)) l=none:=λb l hl=>C8 hl
 have hr1:isB ((1:Nat):Int) {L.r with dirty:=true,nd:=ndR L}=false:=by unfold isB;rw[show ({L.r with dirty:=true,nd:=ndR L}:Vw).blk=0 from hb0];rfl
 have hr2:isB ((2:Nat):Int) {L.r with dirty:=true,nd:=ndR L}=false:=by unfold isB;rw[show ({L.r with dirty:=true,nd:=ndR L}:Vw).blk=0 from hb0];rfl
 have hc0:isC t {L.r with dirty:=true,nd:=ndR L}=false:=by unfold isC;rw[show ({L.r with dirty:=true,nd:=ndR L}:Vw).st=2 from h.st];rfl
 have hcc:isC t (Lo.cf t)=true:=by unfold isC Lo.cf;simp
 have hn1:∀(x:Nd),(⟨{L.r with dirty:=true,nd:=ndR L}::Lo.cf t::Lo.cf t::List.replicate (L.n-3) BL,[],[],0⟩:Mo).name t ((1:Nat):Int) x=(true,⟨{L.r with dirty:=true,nd:=ndR L}::⟨2,((1:Nat):Int),0,0,true,true,x⟩::Lo.cf t::List.replicate (L.n-3) BL,[],[],0⟩):=λx=>by
  have hf:(⟨{L.r with dirty:=true,nd:=ndR L}::Lo.cf t::Lo.cf t::List.replicate (L.n-3) BL,[],[],0⟩:Mo).find ((1:Nat):Int)=none:=by
   refine hfr 1 _ (λf hf=>?_)
   simp only[kN] at hf
   rcases hf with rfl|rfl|rfl|hf
   .exact hr1
   .rfl
   .rfl
   .rw[(mU.1 hf).2];rfl
  have hcl:B7 (isC t) ({L.r with dirty:=true,nd:=ndR L}::Lo.cf t::Lo.cf t::List.replicate (L.n-3) BL)=some 1:=by
   rw[Lo.Lf.fst1_cons,hc0,Lo.Lf.fst1_cons,hcc];rfl
  unfold Mo.name
  rw[hf,hcl]
  rfl
 have hn2:∀(x y:Nd),(⟨{L.r with dirty:=true,nd:=ndR L}::⟨2,((1:Nat):Int),0,0,true,true,x⟩::Lo.cf t::List.replicate (L.n-3) BL,[],[],0⟩:Mo).name t ((2:Nat):Int) y=(true,⟨{L.r with dirty:=true,nd:=ndR L}::⟨2,((1:Nat):Int),0,0,true,true,x⟩::⟨2,((2:Nat):Int),0,0,true,true,y⟩::List.replicate (L.n-3) BL,[],[],0⟩):=λx y=>by
  have hf:(⟨{L.r with dirty:=true,nd:=ndR L}::⟨2,((1:Nat):Int),0,0,true,true,x⟩::Lo.cf t::List.replicate (L.n-3) BL,[],[],0⟩:Mo).find ((2:Nat):Int)=none:=by
   refine hfr 2 _ (λf hf=>?_)
   simp only[kN] at hf
   rcases hf with rfl|rfl|rfl|hf
   .exact hr2
   .rfl
   .rfl
   .rw[(mU.1 hf).2];rfl
  have hcl:B7 (isC t) ({L.r with dirty:=true,nd:=ndR L}::(⟨2,((1:Nat):Int),0,0,true,true,x⟩:Vw)::Lo.cf t::List.replicate (L.n-3) BL)=some 2:=by
   rw[Lo.Lf.fst1_cons,hc0,Lo.Lf.fst1_cons,show isC t (⟨2,((1:Nat):Int),0,0,true,true,x⟩:Vw)=false from rfl,Lo.Lf.fst1_cons,hcc];rfl
  unfold Mo.name
  rw[hf,hcl]
  rfl
 unfold Hm.name
 dsimp only
 rw[hn1,hn2]
 rfl
theorem jF {l:List En} (h:Cv (Lo.lfd l)) (h2:2<=l.length):kck (l.getD (spl l) en0).key=true:=by
 rw[om]
 cases he:l[spl l]? with
 |none=>decide
 |some e=>exact (DJ h e (mQ he)).1
theorem df {l:List En} (hk:∀e∈l,kck e.key=true/\vck e.val=true) (h:1<=l.length):0<lby l:=by
 cases l with
 |nil=>simp at h
 |cons e l =>
  have h1:=hk e (ns ..)
  have a1:=IX h1.1
  have a2:=IY h1.2
  have hl:∀l:List En,(∀e∈l,kck e.key=true/\vck e.val=true)->0<=lby l:=λl hk=>by
   induction l with
   |nil=>simp[lby]
   |cons x l ih =>
    have h1:=hk x (ns ..)
    have a1:=IX h1.1
    have a2:=IY h1.2
    have:=ih (λy hy=>hk y (nG _ hy))
    unfold lby lsz at *
    simp only[ma,pC]
    omega
  have:=hl l (λy hy=>hk y (nG _ hy))
  unfold lby lsz at *
  simp only[ma,pC]
  omega
theorem dg {l:List En} (hk:∀e∈l,kck e.key=true/\vck e.val=true) (h:r.Sublist l):lby r<=lby l:=by
 induction h with
 |slnil=>exact Int.le_refl _
 |cons e _ ih =>
  have h1:=hk e (ns ..)
  have a1:=IX h1.1
  have a2:=IY h1.2
  have:=ih (λy hy=>hk y (nG _ hy))
  unfold lby lsz at *
  simp only[ma,pC]
  omega
 |cons_cons e _ ih =>
  have:=ih (λy hy=>hk y (nG _ hy))
  unfold lby lsz at *
  simp only[ma,pC]
  omega
theorem J8 {l:List En} (h:Cv (Lo.lfd l)) (hr:BG l) (hs:r.Sublist l):FN (lfN r)=true/\(lfN r).Sm 1000:=by
 have hk:=DJ h
 have hf:Cv (Lo.lfd r)=true:=by
  unfold Cv
  have e1:lck (Lo.lfd r).es=true:=Yu (hr.sublist hs) (λe he=>hk e (hs.subset he))
  have e2:lby (Lo.lfd r).es<=248:=oR (dg hk hs) (FP h).2
  rw[e1,od e2];rfl
 exact⟨hf,Oe hf⟩
theorem Gr.fitR {L:Lf} (h:Gr L t):FN (ndR L)=true/\(ndR L).Sm 1000:=by
 obtain⟨es,e,hr,hf⟩:=h.es
 have hl:=h.l2
 have hp:kck (pvt L)=true:=by
  unfold pvt
  rw[e]
  exact jF hf (by rw[e] at hl;exact hl)
 refine⟨?_,⟨lK _,by show 2<=1000;decide,by show 1<=1000;decide,lK _⟩⟩
 show GC (ndR L)=true
 unfold GC F6 ndR
 have h1:fck [((1:Nat):Int),((2:Nat):Int)] [pvt L]=true:=by
  unfold fck
  have:GB kck ltK [pvt L]=true:=by simp[GB,KT,hp]
  rw[this]
  show (decide (2<=2/\2<=4/\1+1=2)&&((List.range 2).all (fkB [((1:Nat):Int),((2:Nat):Int)])&&true))=true
  rfl
 rw[h1]
 show (decide ((0:Nat)=0)&&(true&&bck [])&&decide (bby []<=205))=true
 decide
theorem Gr.growP {L:Lf} (h:Gr L t):dY (eL L) t:=by
 obtain⟨es,e,hr,hf⟩:=h.es
 have hids:=h.ids
 have hnd:(eL L).nd 0=L.r.nd:=Iu h.ok h.st
 have hk:=DJ hf
 have hl:=h.l2
 obtain⟨k,hs⟩:=h.s
 have hfr:=h.fitR
 have hes:L.r.nd.es=es:=by rw[e];rfl
 have hS:(eL L).s=L.s:=rfl
 have hsm:=Oe hf
 constructor
 .rw[hnd,e];rfl
 .rw[hnd,hes]
  exact WX (FP hf).1
 .rw[hnd];exact hl
 .rw[hnd,hes];exact df hk (by rw[hes] at hl;omega)
 .rw[hnd,hes];exact mf hsm.e (by decide)
 .rw[hS];exact h.sl
 .rw[hS,hs]
  intro j hj
  match j,hj with
  |0,_=>exact⟨1,rfl⟩
  |1,_=>exact⟨2,rfl⟩
 .rw[hids,hS,hs];rfl
 .rw[hids];decide
 .rw[hids];rfl
 .rw[hids];rfl
 .rw[hids,hS,hs];rfl
 .rw[hids,hS,hs];rfl
 .rw[Hi h.ok h.st];exact h.wr
 .rw[hids,hnd];exact hfr.1
 .rw[hids,hnd];exact hfr.2
 .rw[hnd,hes];exact (J8 hf hr (pj ..)).1
 .rw[hnd,hes];exact (J8 hf hr (pj ..)).2
 .rw[hnd,hes];exact (J8 hf hr (List.drop_sublist ..)).1
 .rw[hnd,hes];exact (J8 hf hr (List.drop_sublist ..)).2
theorem gU {L:Lf} (h:Gr L t) (s:Sto) (nd:Nd):(gH L s nd).M.frI 0 2=some 0:=by
 have hb0:L.r.blk=0:=h.ok.blk (by rw[h.st];decide)
 have hI0:isB 0 {L.r with dirty:=true,nd:=nd}=true:=by unfold isB;rw[show ({L.r with dirty:=true,nd:=nd}:Vw).blk=0 from hb0,show ({L.r with dirty:=true,nd:=nd}:Vw).st=2 from h.st];rfl
 have hf:(gH L s nd).M.find 0=some 0:=by
  show B7 (isB 0) ({L.r with dirty:=true,nd:=nd}::_)=_
  rw[Lo.Lf.fst1_cons,hI0];rfl
 unfold Mo.frI
 rw[hf]
 show (if ({L.r with dirty:=true,nd:=nd}:Vw).st=2 then some 0 else none)=_
 rw[lu h.st]
theorem jG (hk:o.kind=1\/o.kind=2\/o.kind=3) (s:Int):mck ((mOf o).num s)=true:=by
 have e:mck ((mOf o).num s)=mck (mOf o):=by unfold Ms.num;split<;>rfl
 rw[e]
 unfold mck
 have h1:kck (mOf o).key=true:=EU o
 rw[h1,o9]
 rcases hk with h|h|h
 .have hv:(mOf o).val=vOf o:=by show (if o.kind=1 then vOf o else kv0 16)=_;rw[lu h]
  have hb:(mOf o).by'=0:=by show (if o.kind=3 then o.by' else 0)=0;rw[lz (by rw[h];decide)]
  rw[lu (show (mOf o).kind=1 from h),hv,hb,Qr o];rfl
 .have hv:(mOf o).val=kv0 16:=by show (if o.kind=1 then vOf o else kv0 16)=_;rw[lz (by rw[h];decide)]
  have hb:(mOf o).by'=0:=by show (if o.kind=3 then o.by' else 0)=0;rw[lz (by rw[h];decide)]
  rw[lz (show ¬(mOf o).kind=1 by rw[show (mOf o).kind=2 from h];decide),lu (show (mOf o).kind=2 from h),hv,hb]
  simp
 .have hv:(mOf o).val=kv0 16:=by show (if o.kind=1 then vOf o else kv0 16)=_;rw[lz (by rw[h];decide)]
  rw[lz (show ¬(mOf o).kind=1 by rw[show (mOf o).kind=3 from h];decide),lz (show ¬(mOf o).kind=2 by rw[show (mOf o).kind=3 from h];decide),lu (show (mOf o).kind=3 from h),hv]
  simp
def rdA (t:Int) (k:Kv 8) (a:Nat):Rdr:=⟨t,k,(a:Int),0,0,!decide (a=1),false,ms0,false,kv0 16,false⟩
def rdB (t:Int) (k:Kv 8) (a kid:Nat) (o:Option Ms):Rdr:=⟨t,k,(a:Int),kid,0,!decide (a=1),!decide (a=5),o.getD ms0,o.isSome,kv0 16,false⟩
def wvA (a:Nat):Wv:=⟨(a:Int),!decide (a=0),none,0⟩
def GK (L:Hm) (k:Kv 8) (kid:Nat) (o:Option Ms):Ans:=⟨0,(Za (AN (L.nd (kid:Int)).es k) o).2,(Za (AN (L.nd (kid:Int)).es k) o).1⟩
inductive CT (t:Int) (L:Hm) (c:Cl):Option Ans->Prop
 |idle (h:c.ph=.idle):CT t L c none
 |a (i:Nat) (hi:i=1\/i=3) (h:c.ph=.rd (rdA t (kOf c.op) i)):CT t L c none
 |a5 (h:c.ph=.rd (rdA t (kOf c.op) 5)) (hl:(t,false)∈(L.lat 0).q\/t∈(L.lat 0).rd):CT t L c none
 |b (i kid:Nat) (o:Option Ms) (hi:i=1\/i=3\/i=4) (hk:kid=1\/kid=2) (h:c.ph=.rd (rdB t (kOf c.op) i kid o)) (hl:t∈(L.lat 0).rd) (h4:i=4->t∈(L.lat kid).rd):CT t L c (some (GK L (kOf c.op) kid o))
 |b5 (kid:Nat) (o:Option Ms) (hk:kid=1\/kid=2) (h:c.ph=.rd (rdB t (kOf c.op) 5 kid o)) (hl:t∈(L.lat kid).rd):CT t L c (some (GK L (kOf c.op) kid o))
 |w (i:Nat) (hi:i=0\/i=2) (h:c.ph=.wr (wvA i)):CT t L c none
 |w3 (h:c.ph=.wr (wvA 3)) (hl:(t,true)∈(L.lat 0).q\/(L.lat 0).wr=t):CT t L c none
theorem CT.keep {L:Hm} {c:Cl} {p:Option Ans} (h:CT u L c p) (hl:∀i,i<3->LP u (L.lat i) (L'.lat i)) (hn:∀b:Nat,b=1\/b=2->L'.nd (b:Int)=L.nd (b:Int)):CT u L' c p:=by
 have ha:∀(kid:Nat) (o:Option Ms),kid=1\/kid=2->GK L (kOf c.op) kid o=GK L' (kOf c.op) kid o:=λkid o hk=>by unfold GK;rw[hn kid hk]
 have h0:=hl 0 (by decide)
 cases h with
 |idle h=>exact .idle h
 |a i hi h=>exact .a i hi h
 |a5 h hq=>exact .a5 h (hq.elim (h0.q false) (λx=>.inr (h0.rd x)))
 |b i kid o hi hk h hq h4=>rw[ha kid o hk];exact .b i kid o hi hk h (h0.rd hq) (λe=>(hl kid (by omega)).rd (h4 e))
 |b5 kid o hk h hq=>rw[ha kid o hk];exact .b5 kid o hk h ((hl kid (by omega)).rd hq)
 |w i hi h=>exact .w i hi h
 |w3 h hq=>exact .w3 h (hq.elim (h0.q true) (λx=>.inr (h0.wr x)))
def hold (i:Nat):Ph->Prop
 |.idle=>False
 |.rd r=>(i=0/\(r.abv=true\/(r.at'=5/\r.blk=0)))\/(i=r.blk/\0<i/\(r.at'=4\/r.at'=5))
 |.wr v=>i=0/\v.a=3
def KI2 (c:Cl):Prop:=match c.ph with
 |.idle=>True
 |.rd _=>BH c.op=false/\c.op.kind=4
 |.wr _=>BH c.op=false/\(c.op.kind=1\/c.op.kind=2\/c.op.kind=3)
def Zb (c:Cl):Prop:=(∀o∈c.ops,o.key.size<=9223372036854775807/\(o.kind=1\/o.kind=2\/o.kind=3\/o.kind=4))/\c.nx<=c.ops.length/\(c.ph.isI=false->c.nx<c.ops.length)
abbrev ndT (pv:Kv 8) (ms:List Ms):Nd:=⟨false,[],[((1:Nat):Int),((2:Nat):Int)],[pv],ms⟩
structure T2 (x:HM) (e1 e2:List En) (pv:Kv 8) (ms:List Ms) (P:Nat->Option Ans):Prop where
 ops:∀c∈x.cs,Zb c
 n8:x.cs.length<=8
 two:Two x.L
 n0:x.L.nd ((0:Nat):Int)=ndT pv ms
 n1:x.L.nd ((1:Nat):Int)=lfN e1
 n2:x.L.nd ((2:Nat):Int)=lfN e2
 lg:∀i,i<3->LG (x.L.lat i)
 ct:∀(t:Nat) (c:Cl),x.cs[t]?=some c->CT (t:Int) x.L c (P t)
 ki:∀c∈x.cs,KI2 c
 tk:∀i,i<3->∀u∈Lt.tasks (x.L.lat i),∃(t:Nat) (c:Cl),u=(t:Int)/\x.cs[t]?=some c/\hold i c.ph
 r1:BG e1
 r2:BG e2
 rm:BE Ms.key ms
 cm:∀m∈ms,mck m=true
 fr:fck [((1:Nat):Int),((2:Nat):Int)] [pv]=true
def rk2:Ph->Nat
 |.idle=>0
 |.rd r=>if r.at'=1 then (if r.abv=true then 7 else 10) else if r.at'=3 then (if r.abv=true then 6 else 9) else if r.at'=4 then 5 else if r.blk=0 then 8 else 4
 |.wr v=>if v.a=0 then 10 else if v.a=2 then 9 else 8
def mu2 (c:Cl):Nat:=if c.ph.isI=true then 11*(c.ops.length-c.nx) else 11*(c.ops.length-c.nx-1)+rk2 c.ph
section
variable {x:HM} {e1 e2:List En} {pv:Kv 8} {ms:List Ms} {P:Nat->Option Ans} {mp:List En} {t:Nat} {c:Cl}
theorem T2.nh (h:T2 x e1 e2 pv ms P) (hc:x.cs[t]?=some c) {i:Nat} (hi:i<3) (hn:¬hold i c.ph):(t:Int)∉Lt.tasks (x.L.lat i):=λhu=>by
 obtain⟨v,d,h1,h2,h3⟩:=h.tk i hi _ hu
 have:v=t:=by omega
 subst this;rw[hc] at h2;cases h2;exact hn h3
theorem T2.tkB' (h:T2 x e1 e2 pv ms P) (hc:x.cs[t]?=some c):tkB (t:Int)=true:=by
 have h1:=(lR.1 hc).1
 have h2:=h.n8
 unfold tkB
 rw[od (show (0:Int)<=(t:Int) by omega),od (show (t:Int)<8 by omega)];rfl
theorem T2.mk' (h:T2 x e1 e2 pv ms P) (hc:x.cs[t]?=some c) {L':Hm} {c':Cl} {b:Bool} {evs:List Evt} {P':Option Ans} {ms':List Ms} (e:kE (t:Int) x.sq x.L c=(L',c',b,evs))
 (hk:Two L') (hls:∀i,i<3->LS (t:Int) (x.L.lat i) (L'.lat i)) (h0:L'.nd ((0:Nat):Int)=ndT pv ms') (hn:∀b:Nat,b=1\/b=2->L'.nd (b:Int)=x.L.nd (b:Int)) (hct:CT (t:Int) L' c' P') (hki:KI2 c') (htk:∀i,i<3->(t:Int)∈Lt.tasks (L'.lat i)->hold i c'.ph)
 (hnx:c'.nx<=c.ops.length/\(c'.ph.isI=false->c'.nx<c.ops.length)) (hrm:BE Ms.key ms') (hcm:∀m∈ms',mck m=true):T2 (x.client t) e1 e2 pv ms' (upP P t P'):=by
 have hlt:=(lR.1 hc).1
 have ho:c'.ops=c.ops:=by have:=stepC_ops (t:Int) x.sq x.L c;rw[e] at this;exact this
 have hself:(x.cs.set t c')[t]?=some c':=oU hlt
 have hoth:∀u,u≠t->(x.cs.set t c')[u]?=x.cs[u]?:=λu hu=>po (nj hu)
 rw[EZ hc e]
 refine⟨λd hd=>?_,by show (x.cs.set t c').length<=8;rw[nU];exact h.n8,hk,h0,by rw[hn 1 (.inl I)];exact h.n1,by rw[hn 2 (.inr I)];exact h.n2,λi hi=>(hls i hi).ok (by omega) (h.lg i hi),λu d hd=>?_,λd hd=>?_,λi hi u hu=>?_,h.r1,h.r2,hrm,hcm,h.fr⟩
 .rcases oV hd with e1|e1
  .exact h.ops d e1
  .subst e1
   exact⟨by rw[ho];exact (h.ops c (mQ hc)).1,by rw[ho];exact hnx.1,by rw[ho];exact hnx.2⟩
 .have hd:(x.cs.set t c')[u]?=some d:=hd
  by_cases e1:u=t
  .subst e1
   rw[hself] at hd;cases hd
   rw[IA];exact hct
  .rw[hoth u e1] at hd
   rw[LF e1]
   exact (h.ct u d hd).keep (λi hi=>(hls i hi).keeps (by omega) (by omega) (by omega)) hn
 .rcases oV hd with e1|e1
  .exact h.ki d e1
  .subst e1;exact hki
 .by_cases e1:u=(t:Int)
  .subst e1
   exact⟨t,c',rfl,hself,htk i hi hu⟩
  .rcases (hls i hi).tasks (by omega) (h.lg i hi) hu with h1|h1
   .exact absurd h1 e1
   .obtain⟨v,d,rfl,hd,hp⟩:=h.tk i hi u h1
    exact⟨v,d,rfl,by show (x.cs.set t c')[v]?=_;rw[hoth v (by omega)];exact hd,hp⟩
def Ou2 (x:HM) (e1 e2:List En) (pv:Kv 8) (ms:List Ms) (P:Nat->Option Ans) (mp:List En) (t:Nat) (c:Cl):Prop :=
 preC (t:Int) x.sq x.L c/\∃(L':Hm) (c':Cl) (b:Bool) (evs:List Evt) (P':Option Ans) (ms':List Ms) (mp':List En),kE (t:Int) x.sq x.L c=(L',c',b,evs)/\T2 (x.client t) e1 e2 pv ms' (upP P t P')/\MR e1 e2 pv ms' mp'/\(ms'=ms\/(ms'.length<=ms.length+1/\c'.nx=c.nx+1))/\c.nx<=c'.nx/\EvP t c.nx c.op mp (!c.ph.isI) (P t) (!c'.ph.isI) P' c'.nx evs mp'/\mu2 c'<mu2 c
theorem Nh {t:Int} {f g:Nat->Lt.La} {m:Lt.La} (h:∀j,g j=if j=i then m else f j) (hm:LS t (f i) m):∀j,LS t (f j) (g j):=λj=>by
 rw[h]
 split
 .rename_i e;subst e;exact hm
 .exact .same _
theorem Zc {t:Int} {L:Hm} (h:L'.la=L.la):∀j,LS t (L.lat j) (L'.lat j):=λj=>by unfold Hm.lat;rw[h];exact .same _
theorem LL {t:Int} (ht:0<=t) {m:Lt.La} (g:LG m):t∉Lt.tasks (Lt.dropL m t).2:=λh=>by
 obtain⟨n,hn⟩:=g.ok
 exact (Lt.drop_tasks hn ht h).1 I
theorem gV {l:List Ms} (hr:BE Ms.key l) (hk:∀e∈l,mck e=true):bck l=true:=NY (λi hi=>by
 obtain⟨c,hc⟩:∃c,l[i]?=some c:=⟨_,kY hi⟩
 rcases lN i with h|h
 .subst h;rw[Te hc];exact hk c (mQ hc)
 .obtain⟨d,hd⟩:=gE l (i-1)
  rw[Tf h hc hd,hk c (mQ hc),o9]
  exact od (D5 hr (i-1) i d c (by omega) hd hc))
theorem dh {pv:Kv 8} (hf:fck [((1:Nat):Int),((2:Nat):Int)] [pv]) {l:List Ms} (hr:BE Ms.key l) (hk:∀e∈l,mck e=true) (h3:l.length<=3):GC (ndT pv l)=true/\(ndT pv l).Sm 1000:=by
 have hb:=N3 l
 refine⟨?_,⟨lK _,by show 2<=1000;decide,by show 1<=1000;decide,by show l.length<=1000;omega⟩⟩
 unfold GC F6
 rw[hf,gV hr hk,od (show bby l<=205 by omega)];rfl
theorem T2.idle (h:T2 x e1 e2 pv ms P) (hc:x.cs[t]?=some c) (hp:c.ph=.idle) (hm:c.nx≠c.ops.length) (hP:P t=none) (hr:MR e1 e2 pv ms mp):Ou2 x e1 e2 pv ms P mp t c:=by
 obtain⟨ops,nx,ph⟩:=c
 dsimp only at hp hm
 subst hp
 have hop:=h.ops _ (mQ hc)
 have h1:nx<ops.length:=by have:nx<=ops.length:=hop.2.1;omega
 have ho:=hop.1 _ (mQ (op_at (c:=⟨ops,nx,.idle⟩) h1))
 refine⟨⟨h1,ho⟩,?_⟩
 have hin:∀i,i<3->(t:Int)∈Lt.tasks (x.L.lat i)->False:=λi hi hu=>h.nh hc hi id hu
 by_cases hT:BH (Cl.op ⟨ops,nx,.idle⟩)=true
 .have e:kE (t:Int) x.sq x.L ⟨ops,nx,.idle⟩=(x.L,⟨ops,nx+1,.idle⟩,false,[evB t ⟨ops,nx,.idle⟩,evD t ⟨ops,nx,.idle⟩ ⟨2,false,kv0 16⟩]):=by unfold kE;dsimp only;rw[lu hT];rfl
  refine⟨_,_,_,_,none,ms,mp,e,h.mk' hc e h.two (λi _=>.same _) h.n0 (λ_ _=>rfl) (.idle rfl) trivial (λi hi hu=>(hin i hi hu).elim) ⟨h1,λh=>by cases h⟩ h.rm h.cm,hr,.inl rfl,oS _,by rw[hP];exact .big hT,?_⟩
  unfold mu2;show 11*(ops.length-(nx+1))<11*(ops.length-nx);omega
 .have hT':=m9.2 hT
  by_cases h4:(Cl.op ⟨ops,nx,.idle⟩).kind=4
  .have e:kE (t:Int) x.sq x.L ⟨ops,nx,.idle⟩=(x.L,⟨ops,nx,.rd (rdA t (kOf (Cl.op ⟨ops,nx,.idle⟩)) 1)⟩,false,[evB t ⟨ops,nx,.idle⟩]):=by unfold kE;dsimp only;rw[lz hT,lu h4];rfl
   refine⟨_,_,_,_,none,ms,mp,e,h.mk' hc e h.two (λi _=>.same _) h.n0 (λ_ _=>I) (.a 1 (.inl I) I) ⟨hT',h4⟩ (λi hi hu=>(hin i hi hu).elim) ⟨Nat.le_of_lt h1,λ_=>h1⟩ h.rm h.cm,hr,.inl rfl,lJ _,by rw[hP];exact .begin,?_⟩
   show 11*(ops.length-nx-1)+10<11*(ops.length-nx);omega
  .have e:kE (t:Int) x.sq x.L ⟨ops,nx,.idle⟩=(x.L,⟨ops,nx,.wr (wvA 0)⟩,false,[evB t ⟨ops,nx,.idle⟩]):=by unfold kE;dsimp only;rw[lz hT,lz h4];rfl
   refine⟨_,_,_,_,none,ms,mp,e,h.mk' hc e h.two (λi _=>.same _) h.n0 (λ_ _=>I) (.w 0 (.inl I) I) ⟨hT',ho.2.elim .inl (λe=>e.elim (λe=>.inr (.inl e)) (λe=>e.elim (λe=>.inr (.inr e)) (λe=>absurd e h4)))⟩ (λi hi hu=>(hin i hi hu).elim) ⟨Nat.le_of_lt h1,λ_=>h1⟩ h.rm h.cm,hr,.inl rfl,lJ _,by rw[hP];exact .begin,?_⟩
   show 11*(ops.length-nx-1)+10<11*(ops.length-nx);omega
theorem T2.on (h:T2 x e1 e2 pv ms P) (hc:x.cs[t]?=some c) (hi:c.ph.isI=false) (hr:MR e1 e2 pv ms mp) (hpre:preC (t:Int) x.sq x.L c) {L':Hm} {p':Ph} {P':Option Ans} (e:kE (t:Int) x.sq x.L c=(L',{c with ph:=p'},false,[])) (hk:Y0 x.L L') (hls:∀i,LS (t:Int) (x.L.lat i) (L'.lat i)) (hct:CT (t:Int) L' {c with ph:=p'} P') (hki:KI2 {c with ph:=p'}) (htk:∀i,i<3->(t:Int)∈Lt.tasks (L'.lat i)->hold i p')
 (hi':p'.isI=false) (hev:P'=P t\/(P t=none/\∃f v,P'=some ⟨0,f,v⟩/\c.op.kind=4/\BH c.op=false/\AN mp (kOf c.op)=(v,f))) (hm:rk2 p'<rk2 c.ph):Ou2 x e1 e2 pv ms P mp t c:=by
 have hop:=h.ops c (mQ hc)
 refine⟨hpre,L',_,_,_,P',ms,mp,e,h.mk' hc e hk.two (λi _=>hls i) (by rw[hk.nd 0 (by decide)];exact h.n0) (λb hb=>hk.nd b (by omega)) hct hki htk ⟨hop.2.1,λ_=>hop.2.2 hi⟩ h.rm h.cm,hr,.inl rfl,lJ _,?_,?_⟩
 .show EvP t c.nx c.op mp (!c.ph.isI) (P t) (!p'.isI) P' c.nx [] mp
  rw[hi,hi']
  rcases hev with e1|⟨e0,f,v,e1,h4,hT,hd⟩
  .rw[e1];exact .none
  .rw[e0,e1];exact .told hT h4 f v hd
 .unfold mu2
  show (if p'.isI=true then _ else _)<_
  rw[hi,hi',lz pt,lz pt]
  show 11*(c.ops.length-c.nx-1)+rk2 p'<11*(c.ops.length-c.nx-1)+rk2 c.ph
  omega
theorem T2.off (h:T2 x e1 e2 pv ms P) (hc:x.cs[t]?=some c) (hi:c.ph.isI=false) (hpre:preC (t:Int) x.sq x.L c) {L':Hm} {b:Bool} {a:Ans} {ms':List Ms} {mp':List En} (e:kE (t:Int) x.sq x.L c=(L',c.done,b,[evD t c a])) (hk:Two L') (h0:L'.nd ((0:Nat):Int)=ndT pv ms') (hn:∀b:Nat,b=1\/b=2->L'.nd (b:Int)=x.L.nd (b:Int)) (hls:∀i,LS (t:Int) (x.L.lat i) (L'.lat i)) (htk:∀i,i<3->(t:Int)∉Lt.tasks (L'.lat i)) (hr:MR e1 e2 pv ms' mp') (hrm:BE Ms.key ms') (hcm:∀m∈ms',mck m=true) (hlen:ms'.length<=ms.length+1)
 (hev:EvP t c.nx c.op mp true (P t) false none (c.nx+1) [evD t c a] mp'):Ou2 x e1 e2 pv ms P mp t c:=by
 have hop:=h.ops c (mQ hc)
 have h1:=hop.2.2 hi
 refine⟨hpre,L',_,_,_,none,ms',mp',e,h.mk' hc e hk (λi _=>hls i) h0 hn (.idle rfl) trivial (λi hi hu=>absurd hu (htk i hi)) ⟨h1,λh=>by cases h⟩ hrm hcm,hr,.inr ⟨hlen,rfl⟩,oS _,?_,?_⟩
 .rw[hi];exact hev
 .unfold mu2
  rw[hi]
  show 11*(c.ops.length-(c.nx+1))<11*(c.ops.length-c.nx-1)+rk2 c.ph
  have:0<rk2 c.ph:=by
   cases hp:c.ph with
   |idle=>rw[hp] at hi;cases hi
   |rd r=>unfold rk2;dsimp only;split<;>(try split)<;>(try split)<;>(try split)<;>omega
   |wr v=>unfold rk2;dsimp only;split<;>(try split)<;>omega
  omega
end
theorem Ox {a:Nat} {k:Kv 8}:hold i (.rd (rdA t k a))↔i=0/\a=5:=by
 show (i=0/\(false=true\/((a:Int)=5/\0=0)))\/(i=0/\0<i/\_)↔_
 constructor
 .rintro (⟨h,h1|h1⟩|h)
  .cases h1
  .exact⟨h,by omega⟩
  .omega
 .rintro⟨h,h1⟩
  exact .inl ⟨h,.inr ⟨by omega,rfl⟩⟩
theorem Gc {a kid:Nat} {k:Kv 8} {o:Option Ms} (hk:kid=1\/kid=2):hold i (.rd (rdB t k a kid o))↔(i=0/\a≠5)\/(i=kid/\(a=4\/a=5)):=by
 show (i=0/\((!decide (a=5))=true\/((a:Int)=5/\kid=0)))\/(i=kid/\0<i/\((a:Int)=4\/(a:Int)=5))↔_
 constructor
 .rintro (⟨h,h1|h1⟩|h)
  .exact .inl ⟨h,by simpa using h1⟩
  .omega
  .exact .inr ⟨h.1,by omega⟩
 .rintro (⟨h,h1⟩|h)
  .exact .inl ⟨h,.inl (by simpa using h1)⟩
  .exact .inr ⟨h.1,by omega,by omega⟩
theorem LM {a:Nat}:hold i (.wr (wvA a))↔i=0/\a=3:=by
 show i=0/\(a:Int)=3↔_
 omega
theorem gW (t:Int) (k:Kv 8) (ms:List Ms) (kid:Nat):(rdA t k 5).down ms kid=rdB t k 1 kid (Fl ms k):=by
 unfold Rdr.down Rdr.gat Fl
 cases hg:gis Ms.key ms k<;>simp[rdA,rdB,hg]
section
variable {x:HM} {e1 e2:List En} {pv:Kv 8} {ms:List Ms} {P:Nat->Option Ans} {mp:List En} {t:Nat} {c:Cl}
theorem T2.kr (h:T2 x e1 e2 pv ms P) (hc:x.cs[t]?=some c) {r:Rdr} (hp:c.ph=.rd r):BH c.op=false/\c.op.kind=4:=by
 have:=h.ki c (mQ hc)
 unfold KI2 at this;rw[hp] at this;exact this
theorem T2.kw (h:T2 x e1 e2 pv ms P) (hc:x.cs[t]?=some c) {v:Wv} (hp:c.ph=.wr v):BH c.op=false/\(c.op.kind=1\/c.op.kind=2\/c.op.kind=3):=by
 have:=h.ki c (mQ hc)
 unfold KI2 at this;rw[hp] at this;exact this
theorem T2.kR (h:T2 x e1 e2 pv ms P) (hc:x.cs[t]?=some c) {r:Rdr} (hp:c.ph=.rd r) (r':Rdr):KI2 {c with ph:=.rd r'}:=by have:=h.kr hc hp;exact this
theorem T2.kW (h:T2 x e1 e2 pv ms P) (hc:x.cs[t]?=some c) {v:Wv} (hp:c.ph=.wr v) (v':Wv):KI2 {c with ph:=.wr v'}:=by have:=h.kw hc hp;exact this
theorem T2.frS (h:T2 x e1 e2 pv ms P) {b:Nat} (hb:b<3):(x.L.M.frI (b:Int) 2).isSome=true:=by rw[h.two.f b hb];rfl
theorem T2.nA (h:T2 x e1 e2 pv ms P) (hc:x.cs[t]?=some c) {a:Nat} (hp:c.ph=.rd (rdA (t:Int) (kOf c.op) a)) (ha:a≠5):∀i,i<3->(t:Int)∉Lt.tasks (x.L.lat i):=λi hi=>h.nh hc hi (by rw[hp,Ox];exact λe=>ha e.2)
theorem T2.nW (h:T2 x e1 e2 pv ms P) (hc:x.cs[t]?=some c) {a:Nat} (hp:c.ph=.wr (wvA a)) (ha:a≠3):∀i,i<3->(t:Int)∉Lt.tasks (x.L.lat i):=λi hi=>h.nh hc hi (by rw[hp,LM];exact λe=>ha e.2)
theorem Jm {L:Hm} (h:L'.la=L.la) (i:Nat):L'.lat i=L.lat i:=by unfold Hm.lat;rw[h]
theorem T2.a1 (h:T2 x e1 e2 pv ms P) (hc:x.cs[t]?=some c) (hp:c.ph=.rd (rdA (t:Int) (kOf c.op) 1)) (hP:P t=none) (hr:MR e1 e2 pv ms mp):Ou2 x e1 e2 pv ms P mp t c:=by
 obtain⟨q1,q2,q3⟩:=h.two.pin (h.tkB' hc) (b:=0) (by decide)
 have e0:rdS x.L (rdA (t:Int) (kOf c.op) 1)=((x.L.pin (t:Int) ((0:Nat):Int)).2,(rdA (t:Int) (kOf c.op) 1).pinned (x.L.pin (t:Int) ((0:Nat):Int)).1,false):=rfl
 rw[q1] at e0
 exact h.on hc (by rw[hp];rfl) hr (by unfold preC;rw[hp];exact⟨rfl,h.two.us 0 (by decide),lK _⟩) (D9 hp (r2:=rdA (t:Int) (kOf c.op) 3) e0) q2 (Zc q3) (.a 3 (.inr I) I) (h.kR hc hp _) (λi hi hu=>absurd (by rw[Jm q3] at hu;exact hu) (h.nA hc hp (by decide) i hi)) I (.inl hP.symm) (by rw[hp];show 9<10;decide)
theorem T2.a3 (h:T2 x e1 e2 pv ms P) (hc:x.cs[t]?=some c) (hp:c.ph=.rd (rdA (t:Int) (kOf c.op) 3)) (hP:P t=none) (hr:MR e1 e2 pv ms mp):Ou2 x e1 e2 pv ms P mp t c:=by
 obtain⟨q1,q2⟩:=h.two.take (t:=(t:Int)) (i:=0) (by decide) false (λh=>by omega)
 have hno:=h.nA hc hp (by decide)
 have e0:rdS x.L (rdA (t:Int) (kOf c.op) 3)=(x.L.take (x.L.fi ((0:Nat):Int)) (t:Int) false,rdA (t:Int) (kOf c.op) 5,false):=rfl
 rw[h.two.fi (by decide)] at e0
 obtain⟨n,hn⟩:=(h.lg 0 (by decide)).ok
 exact h.on hc (by rw[hp];rfl) hr (by unfold preC;rw[hp];exact⟨rfl,h.frS (b:=0) (by decide)⟩) (D9 hp e0) q1 (Nh q2 (.take _ false (hno 0 (by decide)))) (.a5 I (by rw[q2,lu rfl];exact Lt.take_self (by omega) (hno 0 (by decide)) hn.toOk0 false)) (h.kR hc hp _) (λi hi hu=>by
  rw[q2] at hu
  split at hu
  .rename_i e;exact Ox.2 ⟨e,rfl⟩
  .exact absurd hu (hno i hi)) I (.inl hP.symm) (by rw[hp];show 8<9;decide)
theorem gX (h:T2 x e1 e2 pv ms P) {kid:Nat} (hk:kid=1\/kid=2):∃es,x.L.nd (kid:Int)=lfN es/\BG es:=by
 rcases hk with rfl|rfl
 .exact⟨e1,h.n1,h.r1⟩
 .exact⟨e2,h.n2,h.r2⟩
theorem T2.a5 (h:T2 x e1 e2 pv ms P) (hc:x.cs[t]?=some c) (hp:c.ph=.rd (rdA (t:Int) (kOf c.op) 5)) (hl:(t:Int)∈(x.L.lat 0).rd) (hP:P t=none) (hr:MR e1 e2 pv ms mp):Ou2 x e1 e2 pv ms P mp t c:=by
 obtain⟨k4,k5⟩:=h.kr hc hp
 obtain⟨kid,hk,hkd,hsd⟩:∃kid:Nat,(kid=1\/kid=2)/\([((1:Nat):Int),((2:Nat):Int)]:List Int)[ET [pv] (kOf c.op)]?=some (kid:Int)/\(x.L.nd (kid:Int)).es=QO e1 e2 pv (kOf c.op):=by
  unfold QO ET
  by_cases hk:Bq pv (kOf c.op)<=0
  .exact⟨2,.inr rfl,by simp[hk],by rw[lu hk,h.n2];rfl⟩
  .exact⟨1,.inl rfl,by simp[hk],by rw[lz hk,h.n1];rfl⟩
 have hn0:=h.n0
 have e0:rdS x.L (rdA (t:Int) (kOf c.op) 5)=(x.L,rdB (t:Int) (kOf c.op) 1 kid (Fl ms (kOf c.op)),false):=by
  show (match (x.L.nd ((0:Nat):Int)).kids[ET (x.L.nd ((0:Nat):Int)).piv (kOf c.op)]? with
   |some kid=>(x.L,(rdA (t:Int) (kOf c.op) 5).down (x.L.nd ((0:Nat):Int)).msgs kid.toNat,false)
   |none=>_)=_
  rw[hn0]
  show (match ([((1:Nat):Int),((2:Nat):Int)]:List Int)[ET [pv] (kOf c.op)]? with
   |some kid=>(x.L,(rdA (t:Int) (kOf c.op) 5).down ms kid.toNat,false)
   |none=>_)=_
  rw[hkd]
  dsimp only
  rw[mV]
  exact congrArg (λr=>(x.L,r,false)) (gW _ _ _ _)
 have ha:AN mp (kOf c.op)=Za (AN (x.L.nd (kid:Int)).es (kOf c.op)) (Fl ms (kOf c.op)):=by rw[hsd,hr.f];rfl
 exact h.on hc (by rw[hp];rfl) hr (by unfold preC;rw[hp];exact⟨rfl,rfl,h.frS (b:=0) (by decide),.inl ⟨kid,by show (x.L.nd ((0:Nat):Int)).kids[ET (x.L.nd ((0:Nat):Int)).piv (kOf c.op)]?=_;rw[hn0];exact hkd,by show BE Ms.key (x.L.nd ((0:Nat):Int)).msgs;rw[hn0];exact h.rm⟩⟩) (D9 hp e0) ⟨h.two,λ_ _=>rfl⟩ (λ_=>.same _) (.b 1 kid (Fl ms (kOf c.op)) (.inl rfl) hk rfl hl (λe=>by cases e)) ⟨k4,k5⟩ (λi hi hu=>(Gc hk).2 (.inl ⟨pA (λe=>h.nh hc hi (by rw[hp,Ox];exact λy=>e y.1) hu),by decide⟩)) rfl (.inr ⟨hP,_,_,rfl,k5,k4,ha⟩) (by rw[hp];show 7<8;decide)
theorem T2.b1 (h:T2 x e1 e2 pv ms P) (hc:x.cs[t]?=some c) {kid:Nat} {o:Option Ms} (hk:kid=1\/kid=2) (hp:c.ph=.rd (rdB (t:Int) (kOf c.op) 1 kid o)) (hl:(t:Int)∈(x.L.lat 0).rd) (hP:P t=some (GK x.L (kOf c.op) kid o)) (hr:MR e1 e2 pv ms mp):Ou2 x e1 e2 pv ms P mp t c:=by
 obtain⟨q1,q2,q3⟩:=h.two.pin (h.tkB' hc) (b:=kid) (by omega)
 have e0:rdS x.L (rdB (t:Int) (kOf c.op) 1 kid o)=((x.L.pin (t:Int) (kid:Int)).2,(rdB (t:Int) (kOf c.op) 1 kid o).pinned (x.L.pin (t:Int) (kid:Int)).1,false):=rfl
 rw[q1] at e0
 have ha:GK x.L (kOf c.op) kid o=GK (x.L.pin (t:Int) (kid:Int)).2 (kOf c.op) kid o:=by unfold GK;rw[q2.nd kid (by omega)]
 exact h.on hc (by rw[hp];rfl) hr (by unfold preC;rw[hp];exact⟨rfl,h.two.us kid (by omega),by show kid<=256;omega⟩) (D9 hp (r2:=rdB (t:Int) (kOf c.op) 3 kid o) e0) q2 (Zc q3) (.b 3 kid o (.inr (.inl rfl)) hk rfl (by rw[Jm q3];exact hl) (λe=>by cases e)) (h.kR hc hp _) (λi hi hu=>(Gc hk).2 (.inl ⟨pA (λe=>h.nh hc hi (by rw[hp,Gc hk];omega) (by rw[Jm q3] at hu;exact hu)),by decide⟩)) rfl (.inl (by rw[hP];exact congrArg some ha.symm)) (by rw[hp];show 6<7;decide)
theorem T2.b3 (h:T2 x e1 e2 pv ms P) (hc:x.cs[t]?=some c) {kid:Nat} {o:Option Ms} (hk:kid=1\/kid=2) (hp:c.ph=.rd (rdB (t:Int) (kOf c.op) 3 kid o)) (hl:(t:Int)∈(x.L.lat 0).rd) (hP:P t=some (GK x.L (kOf c.op) kid o)) (hr:MR e1 e2 pv ms mp):Ou2 x e1 e2 pv ms P mp t c:=by
 have hno:(t:Int)∉Lt.tasks (x.L.lat kid):=h.nh hc (by omega) (by rw[hp,Gc hk];omega)
 obtain⟨k1,k2,k3⟩:=Y1 (t:=(t:Int)) (by omega) (h.lg kid (by omega)) (h.two.qk kid (by omega)) hno
 obtain⟨q1,q2⟩:=h.two.take (t:=(t:Int)) (i:=kid) (by omega) false (λ_=>⟨k1,k2⟩)
 have e0:rdS x.L (rdB (t:Int) (kOf c.op) 3 kid o)=(x.L.take (x.L.fi (kid:Int)) (t:Int) false,rdB (t:Int) (kOf c.op) 4 kid o,false):=rfl
 rw[h.two.fi (by omega)] at e0
 have l0:(x.L.take kid (t:Int) false).lat 0=x.L.lat 0:=by rw[q2,lz (by omega)]
 exact h.on hc (by rw[hp];rfl) hr (by unfold preC;rw[hp];exact⟨rfl,h.frS (b:=kid) (by omega)⟩) (D9 hp e0) q1 (Nh q2 (.take _ false hno)) (.b 4 kid o (.inr (.inr I)) hk I (by rw[l0];exact hl) (λ_=>by rw[q2,lu rfl];exact k3)) (h.kR hc hp _) (λi hi hu=>(Gc hk).2 (by
  rw[q2] at hu
  split at hu
  .rename_i e;exact .inr ⟨e,.inl rfl⟩
  .exact .inl ⟨pA (λe=>h.nh hc hi (by rw[hp,Gc hk];omega) hu),by decide⟩)) I (.inl (by rw[hP];rfl)) (by rw[hp];show 5<6;decide)
theorem T2.b4 (h:T2 x e1 e2 pv ms P) (hc:x.cs[t]?=some c) {kid:Nat} {o:Option Ms} (hk:kid=1\/kid=2) (hp:c.ph=.rd (rdB (t:Int) (kOf c.op) 4 kid o)) (hl:(t:Int)∈(x.L.lat 0).rd) (hl4:(t:Int)∈(x.L.lat kid).rd) (hP:P t=some (GK x.L (kOf c.op) kid o)) (hr:MR e1 e2 pv ms mp):Ou2 x e1 e2 pv ms P mp t c:=by
 obtain⟨q1,q2⟩:=h.two.leave (t:=(t:Int)) (i:=0) (by decide) (λh=>by omega)
 have e0:rdS x.L (rdB (t:Int) (kOf c.op) 4 kid o)=(x.L.leave (x.L.fi ((0:Nat):Int)) (t:Int) ((0:Nat):Int),rdB (t:Int) (kOf c.op) 5 kid o,false):=rfl
 rw[h.two.fi (by decide)] at e0
 have ha:GK x.L (kOf c.op) kid o=GK (x.L.leave 0 (t:Int) ((0:Nat):Int)) (kOf c.op) kid o:=by unfold GK;rw[q1.nd kid (by omega)]
 exact h.on hc (by rw[hp];rfl) hr (by unfold preC;rw[hp];exact⟨rfl,h.frS (b:=0) (by decide),by show De (x.L.lat (x.L.fi ((0:Nat):Int))) (t:Int)=true;rw[h.two.fi (by decide)];unfold De;rw[od hl,pz]⟩) (D9 hp e0) q1 (Nh q2 (.drop _)) (.b5 kid o hk I (by rw[q2,lz (by omega)];exact hl4)) (h.kR hc hp _) (λi hi hu=>(Gc hk).2 (by
  rw[q2] at hu
  split at hu
  .exact absurd hu (LL (by omega) (h.lg 0 (by decide)))
  .exact .inr ⟨pA (λe=>h.nh hc hi (by rw[hp,Gc hk];omega) hu),.inr rfl⟩)) I (.inl (by rw[hP];exact congrArg some ha.symm)) (by rw[hp];show (if kid=0 then 8 else 4)<5;rw[lz (by omega)];decide)
theorem T2.b5 (h:T2 x e1 e2 pv ms P) (hc:x.cs[t]?=some c) {kid:Nat} {o:Option Ms} (hk:kid=1\/kid=2) (hp:c.ph=.rd (rdB (t:Int) (kOf c.op) 5 kid o)) (hl:(t:Int)∈(x.L.lat kid).rd) (hP:P t=some (GK x.L (kOf c.op) kid o)) (hr:MR e1 e2 pv ms mp):Ou2 x e1 e2 pv ms P mp t c:=by
 obtain⟨q1,q2⟩:=h.two.leave (t:=(t:Int)) (i:=kid) (by omega) (λh1=>Y2 (by omega) (h.two.qk kid h1))
 obtain⟨es,hes,hre⟩:=gX h hk
 have e0:rdS x.L (rdB (t:Int) (kOf c.op) 5 kid o)=(x.L.leave kid (t:Int) (kid:Int),(rdB (t:Int) (kOf c.op) 5 kid o).fin es,true):=by
  show (match (x.L.nd (kid:Int)).kids[ET (x.L.nd (kid:Int)).piv (kOf c.op)]? with
   |some kd=>(x.L,(rdB (t:Int) (kOf c.op) 5 kid o).down (x.L.nd (kid:Int)).msgs kd.toNat,false)
   |none=>(x.L.leave (x.L.fi (kid:Int)) (t:Int) (kid:Int),(rdB (t:Int) (kOf c.op) 5 kid o).fin (x.L.nd (kid:Int)).es,true))=_
  rw[hes,h.two.fi (by omega)];rfl
 have ha:GK x.L (kOf c.op) kid o=⟨0,((rdB (t:Int) (kOf c.op) 5 kid o).fin es).f,((rdB (t:Int) (kOf c.op) 5 kid o).fin es).v⟩:=by
  unfold GK
  rw[hes]
  cases o<;>rfl
 refine h.off hc (by rw[hp];rfl) (by unfold preC;rw[hp];exact⟨rfl,rfl,h.frS (b:=kid) (by omega),.inr (by show (x.L.nd (kid:Int)).kids=[]/\BG (x.L.nd (kid:Int)).es/\De (x.L.lat (x.L.fi (kid:Int))) (t:Int)=true;rw[hes,h.two.fi (by omega)];exact⟨rfl,hre,by unfold De;rw[od hl,pz]⟩)⟩) (M0 hp e0) q1.two (by rw[q1.nd 0 (by decide)];exact h.n0) (λb hb=>q1.nd b (by omega)) (Nh q2 (.drop _)) (λi hi hu=>?_) hr h.rm h.cm (oS _) ?_
 .rw[q2] at hu
  split at hu
  .exact LL (by omega) (h.lg kid (by omega)) hu
  .exact h.nh hc hi (by rw[hp,Gc hk];omega) hu
 .rw[hP,ha]
  exact .fin _
theorem T2.w0 (h:T2 x e1 e2 pv ms P) (hc:x.cs[t]?=some c) (hp:c.ph=.wr (wvA 0)) (hP:P t=none) (hr:MR e1 e2 pv ms mp):Ou2 x e1 e2 pv ms P mp t c:=by
 obtain⟨q1,q2,q3⟩:=h.two.pin (h.tkB' hc) (b:=0) (by decide)
 have e0:wrS (t:Int) x.L ((mOf c.op).num x.sq) (wvA 0)=((x.L.pin (t:Int) ((0:Nat):Int)).2,⟨(Ja (x.L.pin (t:Int) ((0:Nat):Int)).1).1,(Ja (x.L.pin (t:Int) ((0:Nat):Int)).1).2,none,0⟩,false):=rfl
 rw[q1] at e0
 exact h.on hc (by rw[hp];rfl) hr (by unfold preC;rw[hp];exact⟨rfl,h.two.us 0 (by decide)⟩) (DL hp (v2:=wvA 2) e0 (by decide)) q2 (Zc q3) (.w 2 (.inr I) I) (h.kW hc hp _) (λi hi hu=>absurd (by rw[Jm q3] at hu;exact hu) (h.nW hc hp (by decide) i hi)) I (.inl hP.symm) (by rw[hp];show 9<10;decide)
theorem T2.w2 (h:T2 x e1 e2 pv ms P) (hc:x.cs[t]?=some c) (hp:c.ph=.wr (wvA 2)) (hP:P t=none) (hr:MR e1 e2 pv ms mp):Ou2 x e1 e2 pv ms P mp t c:=by
 obtain⟨q1,q2⟩:=h.two.take (t:=(t:Int)) (i:=0) (by decide) true (λh=>by omega)
 have hno:=h.nW hc hp (by decide)
 have e0:wrS (t:Int) x.L ((mOf c.op).num x.sq) (wvA 2)=(x.L.take (x.L.fi ((0:Nat):Int)) (t:Int) true,wvA 3,false):=rfl
 rw[h.two.fi (by decide)] at e0
 obtain⟨n,hn⟩:=(h.lg 0 (by decide)).ok
 exact h.on hc (by rw[hp];rfl) hr (by unfold preC;rw[hp];exact⟨rfl,h.frS (b:=0) (by decide)⟩) (DL hp (v2:=wvA 3) e0 (by decide)) q1 (Nh q2 (.take _ true (hno 0 (by decide)))) (.w3 I (by rw[q2,lu rfl];exact Lt.take_self (by omega) (hno 0 (by decide)) hn.toOk0 true)) (h.kW hc hp _) (λi hi hu=>by
  rw[q2] at hu
  split at hu
  .rename_i e;exact LM.2 ⟨e,rfl⟩
  .exact absurd hu (hno i hi)) I (.inl hP.symm) (by rw[hp];show 8<9;decide)
theorem T2.w3 (h:T2 x e1 e2 pv ms P) (hc:x.cs[t]?=some c) (hp:c.ph=.wr (wvA 3)) (hl:(x.L.lat 0).wr=(t:Int)) (h2:ms.length<=2) (hP:P t=none) (hr:MR e1 e2 pv ms mp):Ou2 x e1 e2 pv ms P mp t c:=by
 obtain⟨k1,k2⟩:=h.kw hc hp
 have hm:=jG k2 x.sq
 have hn0:x.L.nd 0=ndT pv ms:=h.n0
 have hrm:=Nf h.rm h.cm hm
 have hcm:=dd h.rm h.cm hm
 have hlen:=KU ms ((mOf c.op).num x.sq)
 obtain⟨f1,f2⟩:=dh h.fr hrm hcm (by omega)
 have hins:Ek (x.L.nd 0) ((mOf c.op).num x.sq)=ndT pv (C9 ms ((mOf c.op).num x.sq)):=by rw[hn0];rfl
 obtain⟨a1,a2,a3⟩:=h.two.setN (ndT pv (C9 ms ((mOf c.op).num x.sq)))
 obtain⟨q1,q2⟩:=a1.leave (t:=(t:Int)) (i:=0) (by decide) (λh=>by omega)
 have hlf:(x.L.nd 0).leaf=false:=by rw[hn0]
 have e0:wrS (t:Int) x.L ((mOf c.op).num x.sq) (wvA 3)=((x.L.setN 0 (ndT pv (C9 ms ((mOf c.op).num x.sq)))).leave 0 (t:Int) ((0:Nat):Int),⟨5,false,none,0⟩,true):=by
  show (if (x.L.nd 0).leaf=true then _ else ((x.L.setN 0 (Ek (x.L.nd 0) ((mOf c.op).num x.sq))).leave (x.L.fi 0) (t:Int) 0,(⟨5,false,none,0⟩:Wv),true))=_
  rw[hlf,lz pt,hins,show x.L.fi 0=0 from h.two.fi (b:=0) (by decide)];rfl
 have hpre:preC (t:Int) x.sq x.L c:=by
  unfold preC;rw[hp]
  refine⟨rfl,h.frS (b:=0) (by decide),?_,?_,?_⟩
  .rw[show x.L.fi 0=0 from h.two.fi (b:=0) (by decide)];exact hl
  .rw[show x.L.fi 0=0 from h.two.fi (b:=0) (by decide)];unfold De;rw[od hl];rfl
  .rw[lz (by rw[hlf];decide),hins]
   refine⟨?_,?_,f1,f2⟩
   .rw[hn0];exact h.rm
   .rw[hn0];exact hrm
 have q2':∀j,((x.L.setN 0 (ndT pv (C9 ms ((mOf c.op).num x.sq)))).leave 0 (t:Int) ((0:Nat):Int)).lat j=if j=0 then (Lt.dropL (x.L.lat 0) (t:Int)).2 else x.L.lat j:=λj=>by rw[q2,Jm a2,Jm a2]
 refine h.off hc (by rw[hp];rfl) hpre (Je hp e0 I) q1.two (by rw[q1.nd 0 (by decide),a3 0 (by decide),lu rfl]) (λb hb=>by rw[q1.nd b (by omega),a3 b (by omega),lz (by omega)]) (Nh q2' (.drop _)) (λi hi hu=>?_) (hr.put h.rm h.cm hm (TM _ _) (λv s=>by unfold Ms.num;split<;>rfl) (Qm _ _ _).symm) hrm hcm hlen ?_
 .rw[q2'] at hu
  split at hu
  .exact LL (by omega) (h.lg 0 (by decide)) hu
  .exact h.nh hc hi (by rw[hp,LM];omega) hu
 .rw[hP]
  exact .put k1 (by omega)
theorem T2.step (h:T2 x e1 e2 pv ms P) (hc:x.cs[t]?=some c) (hm:mayC (t:Int) x.L c) (h2:ms.length<=2) (hr:MR e1 e2 pv ms mp):Ou2 x e1 e2 pv ms P mp t c/\(c.ph.isI=false->x.L.may (t:Int)=true):=by
 have hmay:c.ph.isI=false->x.L.may (t:Int)=true:=λhi=>by
  unfold mayC at hm
  split at hm
  .rename_i e;rw[e] at hi;cases hi
  .exact hm
 have hq:c.ph.isI=false->∀b,((t:Int),b)∉(x.L.lat 0).q:=λhi b hb=>by
  have:=hmay hi
  rw[h.two.may (h.tkB' hc)] at this
  simp only[nr,m5] at this
  exact this (lP.2 ⟨_,hb,rfl⟩)
 refine⟨?_,hmay⟩
 obtain⟨p,hp⟩:∃p,p=P t:=⟨_,rfl⟩
 have hct:=h.ct t c hc
 rw[<-hp] at hct
 cases hct with
 |idle e =>
  refine h.idle hc e (λe2=>?_) hp.symm hr
  unfold mayC at hm
  rw[e] at hm
  simp[e2] at hm
 |a i hi e =>
  rcases hi with rfl|rfl
  .exact h.a1 hc e hp.symm hr
  .exact h.a3 hc e hp.symm hr
 |a5 e hl=>exact h.a5 hc e (hl.resolve_left (hq (by rw[e];rfl) _)) hp.symm hr
 |b i kid o hi hk e hl h4 =>
  rcases hi with rfl|rfl|rfl
  .exact h.b1 hc hk e hl hp.symm hr
  .exact h.b3 hc hk e hl hp.symm hr
  .exact h.b4 hc hk e hl (h4 I) hp.symm hr
 |b5 kid o hk e hl=>exact h.b5 hc hk e hl hp.symm hr
 |w i hi e =>
  rcases hi with rfl|rfl
  .exact h.w0 hc e hp.symm hr
  .exact h.w2 hc e hp.symm hr
 |w3 e hl=>exact h.w3 hc e (hl.resolve_left (hq (by rw[e];rfl) _)) h2 hp.symm hr
end
section
variable {x:HM} {e1 e2:List En} {pv:Kv 8} {ms:List Ms} {P:Nat->Option Ans} {mp:List En}
theorem T2.congr {x':HM} (h:T2 x e1 e2 pv ms P) (hL:x'.L=x.L) (hc:x'.cs=x.cs):T2 x' e1 e2 pv ms P:=by
 obtain⟨a1,a2,a3,a4,a5,a6,a7,a8,a9,b1,b2,b3,b4,b5,b6⟩:=h
 exact⟨by rw[hc];exact a1,by rw[hc];exact a2,by rw[hL];exact a3,by rw[hL];exact a4,by rw[hL];exact a5,by rw[hL];exact a6,by rw[hL];exact a7,by rw[hc,hL];exact a8,by rw[hc];exact a9,by rw[hL,hc];exact b1,b2,b3,b4,b5,b6⟩
theorem T2.look (h:T2 x e1 e2 pv ms P):x.L.look=ndT pv ms:=by
 have h0:=h.n0
 unfold Hm.nd Hm.fi at h0
 unfold Hm.look
 have hf:x.L.M.frI 0 2=some 0:=h.two.f 0 (by decide)
 rw[show x.L.M.frI ((0:Nat):Int) 2=some 0 from hf] at h0
 rw[hf];exact h0
theorem T2.quiet (h:T2 x e1 e2 pv ms P) (hl:ms.length<=1000):DK x.L:=by
 refine⟨h.two.ln,?_,h.two.us 0 (by decide),λhf=>?_⟩
 .rw[h.look];exact⟨lK _,by show 2<=50000;decide,by show 1<=50000;decide,by show ms.length<=50000;omega⟩
 .have:=h.two.f 0 (by decide)
  rw[show x.L.M.frI ((0:Nat):Int) 2=none from hf] at this;cases this
theorem T2.light (h:T2 x e1 e2 pv ms P) (hl:ms.length<=2):DF x.L.look=false:=by
 rw[h.look]
 have hb:=N3 ms
 show (!false&&decide (205<=2*bby ms))=false
 rw[oc (by omega)];rfl
theorem VN {p:Ph} (h:hold i p):p.isI=false:=by
 cases p with
 |idle=>exact h.elim
 |rd r=>rfl
 |wr v=>rfl
theorem Zd {L:Hm} {c:Cl} (h:c.ph.isI=false):mayC t L c=L.may t:=by
 unfold mayC;split
 .rename_i e;rw[e] at h;cases h
 .rfl
theorem T2.goes (h:T2 x e1 e2 pv ms P) (he:x.cs.all Cl.ended=false):∃(t:Nat) (c:Cl),x.cs[t]?=some c/\mayC (t:Int) x.L c=true:=by
 obtain⟨c,hcm,hce⟩:=o7.1 he
 obtain⟨t,hc⟩:=oJ.1 hcm
 have hgo:∀(v:Nat) (d:Cl),x.cs[v]?=some d->d.ph.isI=false->(v:Int)∉(x.L.lat 0).q.map Prod.fst->mayC (v:Int) x.L d=true:=λv d hd hi hq=>by
  rw[Zd hi,h.two.may (h.tkB' hd),oc hq];rfl
 cases hi:c.ph.isI with
 |true =>
  refine⟨t,c,hc,?_⟩
  unfold mayC
  cases hp:c.ph with
  |idle =>
   unfold Cl.ended at hce
   rw[hi] at hce
   simpa using hce
  |rd r=>rw[hp] at hi;cases hi
  |wr v=>rw[hp] at hi;cases hi
 |false =>
  by_cases hq:(t:Int)∈(x.L.lat 0).q.map Prod.fst
  .obtain⟨u,h1,h2⟩:=gR (h.lg 0 (by decide)) hq
   obtain⟨v,d,rfl,hd,hp⟩:=h.tk 0 (by decide) u h1
   exact⟨v,d,hd,hgo v d hd (VN hp) h2⟩
  .exact⟨t,c,hc,hgo t c hc hi hq⟩
end
theorem QQ:∀{l:List Cl} {t:Nat} {c c':Cl},l[t]?=some c->mu2 c'<mu2 c->((l.set t c').map mu2).sum<(l.map mu2).sum
 |[],t,c,c',h,_=>by simp at h
 |x::l,0,c,c',h,hl=>by simp at h;subst h;simp[hl]
 |x::l,t+1,c,c',h,hl=>by
  have:=QQ (l:=l) (t:=t) (c:=c) (c':=c') (by simpa using h) hl
  simpa using this
theorem QR:∀{l:List Cl} {t:Nat} {c c':Cl},l[t]?=some c->((l.set t c').map (·.nx)).sum+c.nx=(l.map (·.nx)).sum+c'.nx
 |[],t,c,c',h=>by simp at h
 |x::l,0,c,c',h=>by simp at h;subst h;simp;omega
 |x::l,t+1,c,c',h=>by
  have:=QR (l:=l) (t:=t) (c:=c) (c':=c') (by simpa using h)
  simp only[nO,ma,pC];omega
theorem T9:∀{l:List Cl},(∀c∈l,c.nx<=c.ops.length)->(l.map (·.nx)).sum<=(l.map (λc=>c.ops.length)).sum
 |[],_=>by simp
 |x::l,h=>by
  have:=T9 (l:=l) (λc hc=>h c (nG _ hc))
  have:=h x (ns ..)
  simp;omega
theorem Ua:∀{l:List Cl} {t:Nat} {c:Cl},l[t]?=some c->c.nx<c.ops.length->(∀c∈l,c.nx<=c.ops.length)->(l.map (·.nx)).sum+1<=(l.map (λc=>c.ops.length)).sum
 |[],t,c,h,_,_=>by simp at h
 |x::l,0,c,h,hn,hl=>by
  simp at h;subst h
  have:=T9 (l:=l) (λc hc=>hl c (nG _ hc))
  simp;omega
 |x::l,t+1,c,h,hn,hl=>by
  have:=Ua (l:=l) (t:=t) (c:=c) (by simpa using h) hn (λc hc=>hl c (nG _ hc))
  have:=hl x (ns ..)
  simp;omega
namespace Lo
def bzy (c:Cl):Bool:=!decide (c.ph=.idle)
def sOf (m:HM):List (Nat×Bool):=m.cs.map (λc=>(c.nx,bzy c))
def KI (c:Cl):Prop:=c.ph≠.idle->BH c.op=false/\((∃a,c.ph=.rd a)↔c.op.kind=4)
theorem KI.step {c:Cl} (h:KI c) (t:Int) (L:Lf):KI (kE t L c).2.1:=by
 obtain⟨ops,nx,ph⟩:=c
 have hd:KI (Cl.done ⟨ops,nx,ph⟩):=λe=>absurd rfl e
 have hrd:∀a b:Nat,ph=.rd a->KI ⟨ops,nx,.rd b⟩:=λa b e _=>by
  subst e
  obtain⟨h1,h2⟩:=h (by simp)
  exact⟨h1,⟨λ_=>h2.1 ⟨_,rfl⟩,λ_=>⟨_,rfl⟩⟩⟩
 have hw:∀p:Ph,(∀a,ph≠.rd a)->ph≠.idle->(∀a,p≠.rd a)->KI ⟨ops,nx,p⟩:=λp e e0 ep _=>by
  obtain⟨h1,h2⟩:=h e0
  exact⟨h1,⟨fun⟨a,ha⟩=>absurd ha (ep a),λh4=>by obtain⟨a,ha⟩:=h2.2 h4;exact absurd ha (e a)⟩⟩
 cases ph with
 |idle =>
  unfold kE;dsimp only
  by_cases hT:BH (Cl.op ⟨ops,nx,.idle⟩)=true
  .rw[lu hT];exact hd
  .rw[lz hT]
   by_cases h4:(Cl.op ⟨ops,nx,.idle⟩).kind=4
   .simp only[h4,mA]
    exact λ_=>⟨m9.2 hT,⟨λ_=>h4,λ_=>⟨_,rfl⟩⟩⟩
   .simp only[h4,nz]
    exact λ_=>⟨m9.2 hT,⟨fun⟨a,ha⟩=>(by cases ha),λe=>absurd e h4⟩⟩
 |rd a =>
  match a with
  |0=>exact hd
  |1=>exact hrd 1 _ rfl
  |2=>exact hrd 2 _ rfl
  |3=>exact hrd 3 _ rfl
  |a+4=>exact hd
 |wr a =>
  match a with
  |0=>exact hw _ (by simp) (by simp) (by simp)
  |1=>exact hw _ (by simp) (by simp) (by simp)
  |2=>exact hw _ (by simp) (by simp) (by simp)
  |a+3 =>
   show KI (if Cv (lfd (Bs (lfe L) (mOf (Cl.op ⟨ops,nx,.wr (a+3)⟩))))=true then _ else _:Lf×Cl×Bool×List Evt).2.1
   split
   .exact hd
   .exact hw _ (by simp) (by simp) (by simp)
 |rm a =>
  by_cases h1:a=1
  .subst h1;exact hw _ (by simp) (by simp) (by simp)
  by_cases h6:a=6
  .subst h6;exact hw _ (by simp) (by simp) (by simp)
  by_cases h7:a=7
  .subst h7;exact hw _ (by simp) (by simp) (by simp)
  .have e:(kE t L ⟨ops,nx,.rm a⟩).2.1=Cl.done ⟨ops,nx,.rm a⟩:=by unfold kE;split<;>simp_all
   rw[e];exact hd
theorem evstep {t:Nat} {L:Lf} {c:Cl} (hL:L.Ok) (hp:preC (t:Int) L c) (hk:KI c):EvP t c.nx c.op (mapL L) (bzy c) none (bzy (kE (t:Int) L c).2.1) none (kE (t:Int) L c).2.1.nx (kE (t:Int) L c).2.2.2 (mapL (kE (t:Int) L c).1):=by
 rcases Qp hL hp with⟨h1,h2,h3,h4,h5,h6⟩|⟨h1,h2⟩
 .rw[h4,h6,show (kE (t:Int) L c).2.2.2=[evD (t:Int) c BC] by rw[h5]]
  have hb:bzy c=true:=by unfold bzy;rw[h1];rfl
  obtain⟨k1,k2⟩:=hk (by rw[h1];simp)
  rw[hb]
  exact .put k1 (λe=>by obtain⟨a,ha⟩:=k2.2 e;rw[h1] at ha;cases ha)
 .rw[h1]
  obtain⟨ops,nx,ph⟩:=c
  cases ph with
  |idle =>
   unfold kE;dsimp only
   by_cases hT:BH (Cl.op ⟨ops,nx,.idle⟩)=true
   .rw[lu hT];exact .big hT
   .rw[lz hT]
    by_cases h4:(Cl.op ⟨ops,nx,.idle⟩).kind=4
    .simp only[h4,mA];exact .begin
    .simp only[h4,nz];exact .begin
  |rd a =>
   match a,hp with
   |1,_=>exact .none
   |2,_=>exact .none
   |3,_=>exact .none
   |5,hp =>
    obtain⟨k1,k2⟩:=hk (by simp)
    exact .get k1 (k2.1 ⟨_,rfl⟩) _ _ (by rw[mapL_at hp.1])
  |wr a =>
   match a,hp with
   |0,_=>exact .none
   |1,_=>exact .none
   |2,_=>exact .none
   |3,hp =>
    have e:kE (t:Int) L ⟨ops,nx,.wr 3⟩=(L,⟨ops,nx,.rm 1⟩,false,[]):=by
     show (if Cv (lfd (Bs (lfe L) (mOf (Cl.op ⟨ops,nx,.wr 3⟩))))=true then _ else _)=_
     rw[(h2 rfl).2];rfl
    rw[e];exact .none
  |rm a =>
   match a,hp with
   |1,_=>exact .none
   |6,_=>exact .none
   |7,_=>exact .none
   |10,_ =>
    obtain⟨k1,k2⟩:=hk (by simp)
    exact .full k1 (λe=>by obtain⟨a,ha⟩:=k2.2 e;cases ha)
end Lo
def v4 (a:Int):Wv:=⟨4,true,some (a,true,0),0⟩
theorem gY {L:Lf} {sq:Int} (h:Gr L t) (hc:L.cl=2) (hct:L.ct=t) {c:Cl} (hp:c.ph=.wr (v4 10)):preC t sq (eL L) c/\kE t sq (eL L) c=(gH L (L.s.al 2).2 (ndR L),{c with ph:=.wr (wvA 3)},false,[]):=by
 have hls:¬(eL L).s.left<2:=by have:2<=(eL L).s.left:=h.sl;omega
 refine⟨?_,DL hp (v2:=wvA 3) (inn:=false) ?_ (by show (3:Int)≠5;decide)⟩
 .unfold preC;rw[hp]
  refine⟨10,rfl,Ga h.ok h.st,.inr (.inr (.inr ⟨rfl,?_,λhn=>absurd hn hls,λ_=>h.growP⟩))⟩
  show 2<=L.M.claims t
  rw[<-hct,MZ h.ok,hc];exact lJ _
 .show (if (eL L).s.left<2 then _ else _:Hm×Wv×Bool)=_
  rw[lz hls,h.grow hc hct];rfl
theorem gZ {L:Lf} (h:Gr L t):Two (gH L (L.s.al 2).2 (ndR L)):=by
 have h5:=h.ok.n5
 have hb0:L.r.blk=0:=h.ok.blk (by rw[h.st];decide)
 obtain⟨k,hs⟩:=h.s
 refine⟨rfl,rfl,λb hb=>?_,by show 3<=(L.la::List.replicate (L.n-1) Lt.newL).length;rw[kQ,oy];omega,λb hb=>?_,λi hi=>?_⟩
 .match b,hb with
  |0,_=>exact gU h _ _
  |1,_ =>
   have hf:(gH L (L.s.al 2).2 (ndR L)).M.find ((1:Nat):Int)=some 1:=by
    show B7 (isB ((1:Nat):Int)) ({L.r with dirty:=true,nd:=ndR L}::⟨2,((1:Nat):Int),0,0,true,true,lfN (L.r.nd.es.take (spl L.r.nd.es))⟩::_)=_
    rw[Lo.Lf.fst1_cons,show isB ((1:Nat):Int) {L.r with dirty:=true,nd:=ndR L}=false by unfold isB;rw[show ({L.r with dirty:=true,nd:=ndR L}:Vw).blk=0 from hb0];rfl,Lo.Lf.fst1_cons]
    rfl
   unfold Mo.frI
   rw[hf];rfl
  |2,_ =>
   have hf:(gH L (L.s.al 2).2 (ndR L)).M.find ((2:Nat):Int)=some 2:=by
    show B7 (isB ((2:Nat):Int)) ({L.r with dirty:=true,nd:=ndR L}::⟨2,((1:Nat):Int),0,0,true,true,lfN (L.r.nd.es.take (spl L.r.nd.es))⟩::⟨2,((2:Nat):Int),0,0,true,true,lfN (L.r.nd.es.drop (spl L.r.nd.es))⟩::_)=_
    rw[Lo.Lf.fst1_cons,show isB ((2:Nat):Int) {L.r with dirty:=true,nd:=ndR L}=false by unfold isB;rw[show ({L.r with dirty:=true,nd:=ndR L}:Vw).blk=0 from hb0];rfl,Lo.Lf.fst1_cons,show isB ((2:Nat):Int) (⟨2,((1:Nat):Int),0,0,true,true,lfN (L.r.nd.es.take (spl L.r.nd.es))⟩:Vw)=false from rfl,Lo.Lf.fst1_cons]
    rfl
   unfold Mo.frI
   rw[hf];rfl
 .show (L.s.al 2).2.us[b]?=some true
  rw[hs]
  match b,hb with
  |0,_=>rfl
  |1,_=>rfl
  |2,_=>rfl
 .show ((L.la::List.replicate (L.n-1) Lt.newL).getD i Lt.newL).q=[]/\_
  have e:(L.la::List.replicate (L.n-1) Lt.newL).getD i Lt.newL=Lt.newL:=by
   obtain⟨j,rfl⟩:∃j,i=j+1:=⟨i-1,by omega⟩
   rw[om,mN,mO]
   split<;>rfl
  refine⟨by rw[e];rfl,?_⟩
  show ((L.la::List.replicate (L.n-1) Lt.newL).getD i Lt.newL).wr = -1
  rw[e];rfl
theorem Ze {L:Lf} {s:Sto} {nd:Nd} (hi:1<=i):(gH L s nd).lat i=Lt.newL:=by
 obtain⟨j,rfl⟩:∃j,i=j+1:=⟨i-1,by omega⟩
 show (L.la::List.replicate (L.n-1) Lt.newL).getD (j+1) Lt.newL=_
 rw[om,mN,mO]
 split<;>rfl
theorem g0 {l:List En} (h:2<=l.length):spl l<l.length:=by
 unfold spl
 rcases k6 ((List.range l.length).takeWhile (FE l)).length l.length with h1|h1
 .exact h1
 .have h2:FE l (l.length-1)=true:=Py (p:=FE l) (l:=List.range l.length) (j:=l.length-1) (by omega) (lT (by omega))
  unfold FE at h2
  simp only[mz,mS] at h2
  omega
theorem grown {m:Lo.HM} (h:Lo.Inv0 m) (hki:∀c∈m.cs,Lo.KI c) {t:Nat} {c:Lo.Cl} (hc:m.cs[t]?=some c) (hp:c.ph=.rm 10) (g:Gr m.L (t:Int)) (hcl:m.L.cl=2) (hct:m.L.ct=(t:Int)) :
 T2 ((eM m).client t) (m.L.r.nd.es.take (spl m.L.r.nd.es)) (m.L.r.nd.es.drop (spl m.L.r.nd.es)) (pvt m.L) [] (λ_=>none):=by
 have hm:(eM m).cs[t]?=some (eC (t:Int) c):=by rw[Fx,hc];rfl
 have hph:(eC (t:Int) c).ph=.wr (v4 10):=by unfold eC;rw[hp];rfl
 obtain⟨_,e⟩:=gY (sq:=m.sq) g hcl hct hph
 have hlt:=(lR.1 hm).1
 have htw:=gZ g
 have hes:=g.es
 have hf:=g.fitR
 have hno:∀(u:Nat) (d:Lo.Cl),m.cs[u]?=some d->u≠t->(∀a,d.ph≠.rm a):=λu d hd hu a ha=>by
  have:=(h.full hd ha).2.2
  have:=g.wr
  omega
 have hoth:∀(u:Nat) (d:Cl),((eM m).cs.set t {eC (t:Int) c with ph:=.wr (wvA 3)})[u]?=some d->(u=t/\d={eC (t:Int) c with ph:=.wr (wvA 3)})\/(u≠t/\∃d0,m.cs[u]?=some d0/\d=eC (u:Int) d0):=λu d hd=>by
  by_cases e1:u=t
  .subst e1
   rw[oU hlt] at hd;cases hd
   exact .inl ⟨rfl,rfl⟩
  .rw[po (nj e1),Fx] at hd
   cases hx:m.cs[u]? with
   |none=>rw[hx] at hd;cases hd
   |some d0=>rw[hx] at hd;cases hd;exact .inr ⟨e1,d0,rfl,rfl⟩
 have hmem:∀d∈(eM m).cs.set t {eC (t:Int) c with ph:=.wr (wvA 3)},(∃d0∈m.cs,d.ops=d0.ops/\d.nx=d0.nx/\(d.ph.isI=false->d0.ph≠.idle)):=λd hd=>by
  obtain⟨u,hu⟩:=oJ.1 hd
  rcases hoth u d hu with⟨_,rfl⟩|⟨_,d0,h1,rfl⟩
  .exact⟨c,mQ hc,rfl,rfl,λ_=>by rw[hp];simp⟩
  .exact⟨d0,mQ h1,rfl,rfl,λhi e1=>by rw[Ol,od e1] at hi;cases hi⟩
 rw[EZ hm e]
 refine⟨λd hd=>?_,by show ((eM m).cs.set t _).length<=8;rw[nU,R0];exact h.n8,htw,?_,?_,?_,λi hi=>?_,λu d hd=>?_,λd hd=>?_,λi hi u hu=>?_,?_,?_,List.Pairwise.nil,λz hz=>(by cases hz),?_⟩
 .obtain⟨d0,h1,h2,h3,h4⟩:=hmem d hd
  have:=h.ops d0 h1
  unfold Zb
  rw[h2,h3]
  exact⟨this.1,this.2.1,λhi=>this.2.2 (h4 hi)⟩
 .rw[htw.nd (b:=0) (by decide)];rfl
 .rw[htw.nd (b:=1) (by decide)];rfl
 .rw[htw.nd (b:=2) (by decide)];rfl
 .rcases lN i with h0|h0
  .subst h0;exact⟨h.la,h.sb⟩
  .rw[Ze h0];exact⟨⟨0,Lt.new_ok⟩,λw q e=>by cases e⟩
 .rcases hoth u d hd with⟨rfl,rfl⟩|⟨hu,d0,h1,rfl⟩
  .exact .w3 I (.inr g.wr)
  .have hci:=h.ci u d0 h1
   obtain⟨ops,nx,ph⟩:=d0
   unfold Lo.CI at hci
   have hst:=g.st
   cases ph with
   |idle=>exact .idle rfl
   |rd a =>
    match a,hci with
    |1,_=>exact .a 1 (.inl rfl) rfl
    |2,hci=>have:=hci.2;omega
    |3,_=>exact .a 3 (.inr rfl) rfl
    |5,hci=>exact .a5 rfl hci.2
   |wr a =>
    match a,hci with
    |0,_=>exact .w 0 (.inl rfl) rfl
    |1,hci=>have:=hci.2;omega
    |2,_=>exact .w 2 (.inr rfl) rfl
    |3,hci=>exact .w3 rfl hci.2
   |rm a=>exact absurd rfl (hno u _ h1 hu a)
 .obtain⟨u,hu⟩:=oJ.1 hd
  have hkk:∀(d0:Lo.Cl),d0∈m.cs->d0.ph≠.idle->(d0.op.kind=1\/d0.op.kind=2\/d0.op.kind=3\/d0.op.kind=4):=λd0 h1 h2=>by
   have:=h.ops d0 h1
   exact (this.1 _ (Lo.op_mem (this.2.2 h2))).2
  have hwk:∀(d0:Lo.Cl),d0∈m.cs->d0.ph≠.idle->(∀a,d0.ph≠.rd a)->BH d0.op=false/\(d0.op.kind=1\/d0.op.kind=2\/d0.op.kind=3):=λd0 h1 h2 h3=>by
   obtain⟨k1,k2⟩:=hki d0 h1 h2
   have:=hkk d0 h1 h2
   have h4:d0.op.kind≠4:=λe1=>by obtain⟨a,ha⟩:=k2.2 e1;exact h3 a ha
   exact⟨k1,by omega⟩
  rcases hoth u d hu with⟨_,rfl⟩|⟨hut,d0,h1,rfl⟩
  .exact hwk c (mQ hc) (by rw[hp];simp) (by rw[hp];simp)
  .have h2:=mQ h1
   obtain⟨ops,nx,ph⟩:=d0
   cases ph with
   |idle=>trivial
   |rd a =>
    obtain⟨k1,k2⟩:=hki _ h2 (by simp)
    exact⟨k1,k2.1 ⟨a,rfl⟩⟩
   |wr a=>exact hwk _ h2 (by simp) (by simp)
   |rm a=>exact absurd rfl (hno u _ h1 hut a)
 .rcases lN i with h0|h0
  .subst h0
   obtain⟨v,d0,rfl,hd,hh⟩:=h.tk u hu
   by_cases e1:v=t
   .subst e1
    exact⟨v,_,rfl,oU hlt,LM.2 ⟨rfl,rfl⟩⟩
   .refine⟨v,eC (v:Int) d0,rfl,by show ((eM m).cs.set t _)[v]?=_;rw[po (nj e1),Fx,hd];rfl,?_⟩
    rcases hh with hh|hh|⟨a,hh⟩
    .have:(eC (v:Int) d0).ph=.rd (rdA (v:Int) (kOf d0.op) 5):=by unfold eC;rw[hh];rfl
     rw[this,Ox];exact⟨rfl,rfl⟩
    .have:(eC (v:Int) d0).ph=.wr (wvA 3):=by unfold eC;rw[hh];rfl
     rw[this,LM];exact⟨rfl,rfl⟩
    .exact absurd hh (hno v d0 hd e1 a)
  .rw[Ze h0] at hu;cases hu
 .obtain⟨es,e2,hr,_⟩:=hes
  rw[e2];exact hr.sublist (pj ..)
 .obtain⟨es,e2,hr,_⟩:=hes
  rw[e2];exact hr.sublist (List.drop_sublist ..)
 .have h1:GC (ndR m.L)=true:=hf.1
  unfold GC F6 at h1
  simp only[mz] at h1
  exact h1.1.2.1
theorem LN:∀{l:List Nat} {x:Nat},x∈l->x<=l.sum
 |y::l,x,h=>by
  rw[pC]
  rcases kN.1 h with e|e
  .omega
  .have:=LN e;omega
def sX (x:HM):List (Nat×Bool):=x.cs.map (λc=>(c.nx,!c.ph.isI))
theorem Zf (m:Lo.HM):sX (eM m)=Lo.sOf m:=by
 apply lY
 intro i
 unfold sX Lo.sOf
 rw[lS,lS,Fx]
 cases m.cs[i]? with
 |none=>rfl
 |some c =>
  show some (c.nx,!(eC (i:Int) c).ph.isI)=some (c.nx,Lo.bzy c)
  rw[Ol];rfl
theorem C5 (f:α->β) {l:List α} {t:Nat} {c c':α} (h:l[t]?=some c) (e:f c'=f c):(l.set t c').map f=l.map f:=by
 apply lY
 intro i
 rw[lS,lS,oC]
 split
 .rename_i h1
  subst h1
  have:=(lR.1 h).1
  rw[lu this,h]
  simp[e]
 .rfl
theorem Lo.stepC_s (t:Int) (L:Lf) (c:Lo.Cl):(Lo.kE t L c).1.s=L.s:=by
 have hp:(L.pin t).2.s=L.s:=by unfold Lf.pin;split<;>(try split)<;>rfl
 have hl:∀L1:Lf,(L1.leave t).s=L1.s:=λL1=>by show (L1.drop t).unpin.s=_;rw[(TK _).1];rfl
 unfold Lo.kE
 split<;>(try split)<;>first|rfl|exact hp|exact hl _
theorem g6 (ho:x.cs.map (·.ops)=ls) {t:Nat} {c:Cl} (hc:x.cs[t]?=some c) (h1:c.nx<c.ops.length) (hk:∀o∈c.ops,o.kind=1\/o.kind=2\/o.kind=3\/o.kind=4):OpIn ls t c.nx/\Em ls t c.nx=c.op:=by
 have hls:ls[t]?=some c.ops:=by rw[<-ho,lS,hc];rfl
 refine⟨⟨c.ops,c.op,hls,op_at h1,hk _ (mQ (op_at h1))⟩,?_⟩
 unfold Em Cl.op
 rw[om (l:=ls),hls];rfl
structure Zg (e1 e2:List En) (pv:Kv 8):Prop where
 lo:∀e∈e1,(kck e.key=true/\vck e.val=true)/\Bq e.key pv<0
 hi:∀e∈e2,(kck e.key=true/\vck e.val=true)/\¬Bq e.key pv<0
inductive Way2 (ls:List (List Opn)) (nb:Nat):HM->Nat->Prop
 |lo (m:Lo.HM) (hi:Lo.Inv m) (hf:Lo.Few m) (ht:Lo.tot m<=12) (hk:∀c∈m.cs,Lo.KI c) (hs:m.L.s=st1 nb) (ord:List Nat) (hh:HP ls (Lo.sOf m) (λ_=>none) m.ev ord (Lo.mapL m.L)) (ho:m.cs.map (·.ops)=ls):Way2 ls nb (eM m) (Lo.mu m+200)
 |tw (x:HM) (e1 e2:List En) (pv:Kv 8) (ms:List Ms) (P:Nat->Option Ans) (mp:List En) (ord:List Nat) (h:T2 x e1 e2 pv ms P) (ht:Tld x) (hr:MR e1 e2 pv ms mp) (hs:Zg e1 e2 pv) (hn:ms.length+9<=(x.cs.map (·.nx)).sum) (h12:(x.cs.map (λc=>c.ops.length)).sum<=12) (hh:HP ls (sX x) P x.ev ord mp) (ho:x.cs.map (·.ops)=ls):Way2 ls nb x (x.cs.map mu2).sum
theorem Way2.hp (h:Way2 ls nb x n):∃P ord mp,HP ls (sX x) P x.ev ord mp:=by
 cases h with
 |lo m hi hf ht hk hs ord hh ho=>exact⟨_,ord,_,by rw[Zf];exact hh⟩
 |tw x e1 e2 pv ms P mp ord h ht hr hs hn h12 hh ho=>exact⟨P,ord,mp,hh⟩
theorem Way2.ops (h:Way2 ls nb x n):x.cs.map (·.ops)=ls:=by
 cases h with
 |lo m hi hf ht hk hs ord hh ho =>
  rw[<-ho]
  apply lY
  intro i
  rw[lS,lS,Fx]
  cases m.cs[i]?<;>rfl
 |tw x e1 e2 pv ms P mp ord h ht hr hs hn h12 hh ho=>exact ho
theorem Zh:∀{l:List Cl},(∀c∈l,c.nx<=c.ops.length/\(c.ph.isI=false->c.nx<c.ops.length))->(l.map mu2).sum+11*(l.map (·.nx)).sum<=11*(l.map (λc=>c.ops.length)).sum
 |[],_=>by simp
 |c::l,h=>by
  have ih:=Zh (l:=l) (λc hc=>h c (nG _ hc))
  obtain⟨h1,h2⟩:=h c (ns ..)
  have h3:mu2 c+11*c.nx<=11*c.ops.length:=by
   unfold mu2
   cases hi:c.ph.isI with
   |true=>rw[lu rfl];omega
   |false =>
    have h4:=h2 hi
    have h5:rk2 c.ph<=10:=by
     unfold rk2
     split
     .omega
     .repeat' split
      all_goals omega
     .repeat' split
      all_goals omega
    rw[lz pt];omega
  simp only[ma,pC];omega
theorem g7 {m:Lo.HM} (h:Lo.Inv m):Tld (eM m):=⟨by rw[R0];exact h.n8,by rw[R0];exact h.tn,h.tl,λi hi=>by rw[ek m h.lok];exact h.told i hi⟩
theorem Sp (f:Nat->List Opn->α) (m:Lo.HM):(eM m).cs.map (λc=>f c.nx c.ops)=m.cs.map (λc=>f c.nx c.ops):=by
 apply lY
 intro i
 rw[lS,lS,Fx]
 cases m.cs[i]?<;>rfl
theorem Way2.stepT {nb:Nat} {ms:List Ms} {mp:List En} (h:T2 x e1 e2 pv ms P) (ht:Tld x) (hr:MR e1 e2 pv ms mp) (hs:Zg e1 e2 pv) (hn:ms.length+9<=(x.cs.map (·.nx)).sum) (h12:(x.cs.map (λc=>c.ops.length)).sum<=12) (hh:HP ls (sX x) P x.ev ord mp) (ho:x.cs.map (·.ops)=ls) (he:x.cs.all Cl.ended=false) (p:Int) :
 x.Pre/\DK (kF x p).L/\(kF x p).pk<=x.pk+1/\∃n',n'<(x.cs.map mu2).sum/\Way2 ls nb (kF x p) n':=by
 have hle:∀c∈x.cs,c.nx<=c.ops.length:=λc hc=>(h.ops c hc).2.1
 have h2:ms.length<=2:=by
  obtain⟨c,hcm,hce⟩:=o7.1 he
  obtain⟨t,hc⟩:=oJ.1 hcm
  have hop:=h.ops c hcm
  have h1:c.nx<c.ops.length:=by
   cases hi:c.ph.isI with
   |false=>exact hop.2.2 hi
   |true =>
    unfold Cl.ended at hce
    rw[hi] at hce
    have h3:¬c.nx=c.ops.length:=by simpa using hce
    have:=hop.2.1
    omega
  have:=Ua hc h1 hle
  omega
 have hv:=h.light h2
 obtain⟨u0,d0,hd0,hm0⟩:=h.goes he
 refine⟨λu hu=>?_,?_⟩
 .obtain⟨c,hc,hm⟩:=ht.pre hv hu
  obtain⟨⟨hp,_⟩,hmay⟩:=h.step hc hm h2 hr
  exact⟨c,hc,hp,hmay⟩
 rcases ht.step hv p with⟨_,hr0⟩|⟨t,c,T',_,hc,hm,e,ht'⟩
 .exact absurd hr0 (ht.run hd0 hm0)
 obtain⟨⟨hp,L',c',b,evs,P',ms',mp',es,h1,hr1,hms,hnx,hev,hmu⟩,_⟩:=h.step hc hm h2 hr
 have hcl:=EZ hc es
 have hop:=h.ops c (mQ hc)
 have hlt:c.nx<c.ops.length:=by
  cases hi:c.ph with
  |idle=>unfold preC at hp;rw[hi] at hp;exact hp.1
  |rd r=>exact hop.2.2 (by rw[hi];rfl)
  |wr v=>exact hop.2.2 (by rw[hi];rfl)
 have ho':c'.ops=c.ops:=by have:=stepC_ops (t:Int) x.sq x.L c;rw[es] at this;exact this
 have hcs:(kF x p).cs=x.cs.set t c':=by rw[e];show (x.client t).cs=_;rw[hcl]
 have hL:(kF x p).L=(x.client t).L:=by rw[e]
 have hev':(kF x p).ev=x.ev++evs:=by rw[e];show (x.client t).ev=_;rw[hcl]
 have h1':T2 (kF x p) e1 e2 pv ms' (upP P t P'):=h1.congr hL (by rw[e])
 have hlen:ms'.length+9<=((kF x p).cs.map (·.nx)).sum:=by
  rw[hcs]
  have:=QR (c':=c') hc
  rcases hms with rfl|⟨h3,h4⟩<;>omega
 obtain⟨o1,o2⟩:=g6 ho hc hlt (λo hx=>(hop.1 o hx).2)
 have hsx:(sX x)[t]?=some (c.nx,!c.ph.isI):=by unfold sX;rw[lS,hc];rfl
 obtain⟨ord',h3⟩:=hh.step hsx rfl o1 (by rw[o2];exact hev)
 have h12':((kF x p).cs.map (λc=>c.ops.length)).sum<=12:=by rw[hcs,C5 (λc:Cl=>c.ops.length) hc (by rw[ho'])];exact h12
 have hq:ms'.length<=1000:=by rcases hms with rfl|⟨h3,h4⟩<;>omega
 refine⟨h1'.quiet hq,by rw[e];exact lJ _,_,?_,.tw _ e1 e2 pv ms' _ mp' ord' h1' ht' hr1 hs hlen h12' ?_ (by rw[hcs,<-ho];exact C5 (λc:Cl=>c.ops) hc ho')⟩
 .rw[hcs];exact QQ hc hmu
 .rw[hev']
  have:sX (kF x p)=(sX x).set t (c'.nx,!c'.ph.isI):=by unfold sX;rw[hcs,m4]
  rw[this];exact h3
theorem Way2.step (hnb:1<=nb) {x:HM} {n:Nat} (h:Way2 ls nb x n) (he:x.cs.all Cl.ended=false) (p:Int):x.Pre/\DK (kF x p).L/\(kF x p).pk<=x.pk+1/\∃n',n'<n/\Way2 ls nb (kF x p) n':=by
 cases h with
 |tw x e1 e2 pv ms P mp ord h ht hr hs hn h12 hh ho=>exact Way2.stepT h ht hr hs hn h12 hh ho he p
 |lo m hi hf ht hk hs ord hh ho =>
  rw[Qs] at he
  obtain⟨a1,a2,a3,a4⟩:=hi.go p
  have hgr:∀(t:Nat) (c:Lo.Cl),m.cs[t]?=some c->c.ph=.rm 10->m.L.mayH (t:Int)=true->¬m.L.s.left<2->Gr m.L (t:Int)/\m.L.cl=2/\m.L.ct=(t:Int):=λt c hc e1 e2 e3=>by
   have hci:=hi.ci t c hc
   unfold Lo.CI at hci
   rw[e1] at hci
   obtain⟨k1,k2,k3,k4,k5⟩:=hci
   refine⟨⟨hi.lok,R3 hi hc,k1,k2,hi.ld0 (by rw[k1];decide),λhq=>?_,?_,by omega,by omega⟩,k4,k5⟩
   .obtain⟨y,hy,hy2⟩:=lP.1 hq
    obtain⟨y1,y2⟩:=y
    have:y1=(t:Int):=hy2
    subst this
    exact Lo.may_q e2 y2 hy
   .obtain⟨k,hk2⟩:=VM hnb (by rw[<-hs];exact e3)
    exact⟨k,by rw[hs,hk2]⟩
  have hpre:(eM m).Pre:=Yq hi (λt c hc e1 e2 e3=>by
   obtain⟨g,g1,g2⟩:=hgr t c hc e1 e2 e3
   exact (gY (sq:=m.sq) g g1 g2 (by unfold eC;rw[e1];rfl)).1)
  refine⟨hpre,?_⟩
  by_cases hS:∀c,m.cs[Sc.whoM m.T p]?=some c->c.ph=.rm 10->m.L.s.left<2
  .have est:=TO hi p a1.lok hS
   obtain⟨f1,_,f3⟩:=hf.step hi p
   refine⟨by rw[est];exact J3 a1.lok,by rw[est];exact a4,Lo.mu (Lo.kF m p)+200,by have:=a3 he;omega,?_⟩
   rw[est]
   rcases Lo.stepH_cases hi p with⟨e,hr⟩|⟨t,c,hc,h0,hpre,e⟩
   .rw[e];exact .lo m hi hf ht hk hs ord hh ho
   .have hki:=hk c (mQ hc)
    have hop:=hi.ops c (mQ hc)
    have h1:c.nx<c.ops.length:=by
     by_cases e:c.ph=.idle
     .unfold Lo.preC at hpre;rw[e] at hpre;exact hpre.1
     .exact hop.2.2 e
    have hls:ls[t]?=some c.ops:=by rw[<-ho,lS,hc];rfl
    have o1:OpIn ls t c.nx:=⟨c.ops,c.op,hls,Lo.op_at h1,(hop.1 _ (Lo.op_mem h1)).2⟩
    have o2:Em ls t c.nx=c.op:=by
     unfold Em Lo.Cl.op
     rw[om (l:=ls),hls];rfl
    have hsx:(Lo.sOf m)[t]?=some (c.nx,Lo.bzy c):=by unfold Lo.sOf;rw[lS,hc];rfl
    obtain⟨ord',h3⟩:=hh.step hsx rfl o1 (by rw[o2];exact Lo.evstep hi.lok hpre hki)
    rw[So rfl] at h3
    have ecs:(Lo.kF m p).cs=m.cs.set t (Lo.kE (t:Int) m.L c).2.1:=by rw[e];exact Lo.client_cs hc
    have eL':(Lo.kF m p).L=(Lo.kE (t:Int) m.L c).1:=by rw[e];exact Lo.client_L hc
    have eev:(Lo.kF m p).ev=m.ev++(Lo.kE (t:Int) m.L c).2.2.2:=by rw[e];exact Lo.client_ev hc
    refine .lo _ a1 f1 (by rw[f3];exact ht) (λd hd=>?_) (by rw[eL',Lo.stepC_s];exact hs) ord' ?_ ?_
    .rw[ecs] at hd
     rcases oV hd with e1|e1
     .exact hk d e1
     .rw[e1];exact hki.step _ _
    .have hs2:Lo.sOf (Lo.kF m p)=(Lo.sOf m).set t ((Lo.kE (t:Int) m.L c).2.1.nx,Lo.bzy (Lo.kE (t:Int) m.L c).2.1):=by
      unfold Lo.sOf;rw[ecs,m4]
     rw[hs2,eev,eL'];exact h3
    .rw[ecs,<-ho]
     exact C5 (λc:Lo.Cl=>c.ops) hc (Lo.stepC_ops _ _ _)
  .obtain⟨c,hc,e1,e2⟩:∃c,m.cs[Sc.whoM m.T p]?=some c/\c.ph=.rm 10/\¬m.L.s.left<2:=pA (λhn=>hS (λc h1 h2=>pA (λh3=>hn ⟨c,h1,h2,h3⟩)))
   have tld:=g7 hi
   rcases tld.step (TN hi.lok) p with⟨_,hr0⟩|⟨t,d,T',ht',hd,hm,e,tld'⟩
   .obtain⟨t,c',hc',hm'⟩:=hi.toInv0.goes he
    exact absurd hr0 (tld.run (t:=t) (c:=eC (t:Int) c') (by rw[Fx,hc'];rfl) (by show mayC (t:Int) (eL m.L) _=true;rw[R2];exact hm'))
   .have ht2:t=Sc.whoM m.T p:=ht'
    rw[<-ht2] at hc
    have hd2:d=eC (t:Int) c:=by rw[Fx,hc] at hd;cases hd;rfl
    subst hd2
    have hmh:m.L.mayH (t:Int)=true:=by
     have h3:mayC (t:Int) (eL m.L) (eC (t:Int) c)=true:=hm
     rw[R2] at h3
     unfold Lo.mayC at h3
     rw[e1] at h3;exact h3
    obtain⟨g,g1,g2⟩:=hgr t c hc e1 hmh e2
    have hg:=grown hi.toInv0 hk hc e1 g g1 g2
    have hph:(eC (t:Int) c).ph=.wr (v4 10):=by unfold eC;rw[e1];rfl
    have hcl:=EZ hd (gY (sq:=m.sq) g g1 g2 hph).2
    have hx:T2 (kF (eM m) p) (m.L.r.nd.es.take (spl m.L.r.nd.es)) (m.L.r.nd.es.drop (spl m.L.r.nd.es)) (pvt m.L) [] (λ_=>none):=hg.congr (by rw[e]) (by rw[e])
    obtain⟨es,ee,hr,hfit⟩:=g.es
    have hes:m.L.r.nd.es=es:=by rw[ee];rfl
    have hml:Lo.mapL m.L=es:=by rw[Lo.mapL_at g.st];exact hes
    have hl2:2<=es.length:=by have:=g.l2;rw[hes] at this;exact this
    have hkk:=DJ hfit
    have hsp:=g0 hl2
    have hat:es[spl es]?=some (es.getD (spl es) en0):=by rw[om,kY hsp];rfl
    have hpv:pvt m.L=(es.getD (spl es) en0).key:=by unfold pvt;rw[hes]
    have h9:=(hi.toInv0.full hc e1).1
    have hcnt:9<=(m.cs.map (·.nx)).sum:=mf h9 hf
    have ecs:(kF (eM m) p).cs=(eM m).cs.set t {eC (t:Int) c with ph:=.wr (wvA 3)}:=by rw[e];show ((eM m).client t).cs=_;rw[hcl]
    have eev:(kF (eM m) p).ev=m.ev:=by rw[e];show ((eM m).client t).ev=_;rw[hcl];exact nS _
    have esx:sX (kF (eM m) p)=Lo.sOf m:=by
     rw[<-Zf]
     unfold sX
     rw[ecs]
     exact C5 (λc:Cl=>(c.nx,!c.ph.isI)) hd (by rw[hph];rfl)
    have enx:((kF (eM m) p).cs.map (·.nx)).sum=(m.cs.map (·.nx)).sum:=by
     rw[ecs,C5 (λc:Cl=>c.nx) (c':={eC (t:Int) c with ph:=.wr (wvA 3)}) hd rfl]
     exact congrArg List.sum (Sp (λa _=>a) m)
    have eop:((kF (eM m) p).cs.map (λc=>c.ops.length)).sum=(m.cs.map (·.ops.length)).sum:=by
     rw[ecs,C5 (λc:Cl=>c.ops.length) (c':={eC (t:Int) c with ph:=.wr (wvA 3)}) hd rfl]
     exact congrArg List.sum (Sp (λ_ a=>a.length) m)
    have h12:(m.cs.map (·.ops.length)).sum<=12:=ht
    have hmu:=Zh (l:=(kF (eM m) p).cs) (λc hc=>(hx.ops c hc).2)
    rw[enx,eop] at hmu
    rw[hes] at hx
    rw[hpv] at hx
    obtain⟨s1,s2⟩:=QP hr hat
    refine⟨hx.quiet (lK _),by rw[e];exact lJ _,_,?_,.tw _ _ _ _ [] _ es ord hx tld' (MR.split hr (λe he=>(hkk e he).1) hat) ⟨λe he=>⟨hkk e (kZ he),s1 e he⟩,λe he=>⟨hkk e (List.mem_of_mem_drop he),s2 e he⟩⟩ (by rw[enx];exact hcnt) (by rw[eop];exact h12) ?_ ?_⟩
    .omega
    .rw[esx,eev,<-hml];exact hh
    .rw[ecs,<-ho]
     exact (C5 (λc:Cl=>c.ops) (c':={eC (t:Int) c with ph:=.wr (wvA 3)}) hd I).trans (Sp (λ_ a=>a) m)
theorem Way2.begin {nf fl:Nat} (h1:1<=nb) (h5:5<=nf) (h8:ls.length+(fl+1)<=8) (hok:∀l∈ls,∀o∈l,o.key.size<=9223372036854775807/\(o.kind=1\/o.kind=2\/o.kind=3\/o.kind=4)) (ht:(ls.map List.length).sum<=12):∃n,n<=2200/\Way2 ls nb (hmS nb nf fl ls) n:=by
 have hcs:(Lo.hmS nb nf fl ls).cs=ls.map Lo.cl0:=rfl
 refine⟨Lo.mu (Lo.hmS nb nf fl ls)+200,?_,?_⟩
 .have h24:∀l∈ls,l.length<=24:=λl hl=>by
   have:l.length<=(ls.map List.length).sum:=LN (lP.2 ⟨l,hl,rfl⟩)
   omega
  have:=Lo.mu_le h24
  have e:Lo.mu (Lo.hmS nb nf fl ls)=((ls.map Lo.cl0).map Lo.muC).sum:=rfl
  omega
 .rw[<-Yw h1 h5]
  refine .lo _ (Lo.hmS_inv h1 h5 h8 hok) (Lo.hmS_few _ _ _ _) ?_ (λc hc=>?_) I [] (HP.nil _ (λq hq=>?_)) ?_
  .show ((ls.map Lo.cl0).map (·.ops.length)).sum<=12
   rw[mY];exact ht
  .rw[hcs] at hc
   obtain⟨l,_,rfl⟩:=lP.1 hc
   exact λh=>absurd I h
  .unfold Lo.sOf at hq
   rw[hcs] at hq
   obtain⟨c,hc,rfl⟩:=lP.1 hq
   obtain⟨l,_,rfl⟩:=lP.1 hc
   rfl
  .rw[hcs,mY]
   exact List.map_id' _
end Go.Proofs.YtloldofjddbjoaaGreat
namespace Go.Sep
open Go.RowKit
def DC (b:Nat) (o:Obj):Ent:=⟨some b,λx=>x=some o⟩
abbrev QS (fn:FuncId) (tmps:Array Value) (ps:Array Tmp) (assign body:Code) (D0:Nat):Loop:={state:=.ready,pending:=none,fn,tmps,params:=ps,assign,body,defers:=D0}
abbrev FW:Fence:=Fence.wide
theorem St.put {w0:World} {D:List Nat} {H:List Ent} {w:World} {b:Nat} {o:Obj} (h:St w0 D (DC b o::H) w) (o':Obj):St w0 D (DC b o'::H) (w.putObj b o') :=
 St.write h rfl rfl rfl World.putObj_size (λk hk=>World.putObj_heap_other hk) (World.putObj_heap_same (h.hp.lt b (show b∈b::Sep.dom H from ns ..)))
section
variable {P:Program} {n:Nat} {L:Env} {X:World->Prop} {Q:Exit->Act->World->Prop} {w0:World} {D:List Nat} {H:List Ent}
theorem Ni {k:Nat} {row:String} {args:Array Value} {w:World} {R:Value->World->Prop} (h:Rows P row args w R):RowsIn FW k P row args w R:=λc cs _=>by
 obtain⟨v,w',r,s⟩:=h c cs
 exact⟨v,w',r,stepsIn_wide.2 s⟩
def Gd (o:Oper):Bool:=match o.op with|.defer _=>false|_=>true
theorem Ub {l k:Nat} {o:Oper} (hn:Gd o) {a:Act} {w:World} {K:Act->World->Prop} (h:o.wp P a w K Q):o.wpIn (FW.inRound l) k P a w K Q:=by
 refine⟨λ_ _=>trivial,?_⟩
 have e:o.semAt (some l) a.eval=execOp a.eval o:=by
  unfold Oper.semAt
  unfold Gd at hn
  split
  .rename_i hd;rw[hd] at hn;cases hn
  .rfl
 show o.uponIn (FW.inRound l) k P a K Q ((o.semAt (some l) a.eval).run P w)
 rw[e]
 unfold Oper.wp at h
 generalize (execOp a.eval o).run P w=r at h
 cases r with
 |ok x w' =>
  cases x with
  |value v=>exact h
  |skip=>exact h
  |defer d=>exact h
  |enter f args=>exact⟨λh=>(by cases h),callsIn_wide.2 h⟩
  |row row args=>exact⟨λh=>(by cases h),Ni h⟩
  |_=>exact h.elim
 |halt x w' =>
  cases x with
  |panic v=>exact h
  |_=>exact h.elim
theorem Zi {k:Nat} {o:Oper} {a:Act} {w:World} {K:Act->World->Prop} (h:o.wp P a w K Q):o.wpIn FW k P a w K Q:=by
 refine⟨λ_ _=>trivial,?_⟩
 show o.uponIn FW k P a K Q ((execOp a.eval o).run P w)
 unfold Oper.wp at h
 generalize (execOp a.eval o).run P w=r at h
 cases r with
 |ok x w' =>
  cases x with
  |value v=>exact h
  |skip=>exact h
  |defer d=>exact h
  |enter f args=>exact⟨λh=>(by cases h),callsIn_wide.2 h⟩
  |row row args=>exact⟨λh=>(by cases h),Ni h⟩
  |_=>exact h.elim
 |halt x w' =>
  cases x with
  |panic v=>exact h
  |_=>exact h.elim
theorem IE {l k:Nat} {ops:Array Oper} (hq:∀a w,¬Q .outgrown a w) (hn:ops.toList.all Gd) {md:Region.Mode}:∀(fuel:Nat) (listed:Array Bool) (a:Act) (w:World),wpAny P md ops Q fuel listed a w->wpAnyIn (FW.inRound l) k P md ops Q fuel listed a w
 |0,_,_,_,h=>h
 |fuel+1,listed,a,w,h=>⟨h.1,λi hi=>by
  have h2:=h.2 i hi
  unfold wpOpIn
  unfold wpOp at h2
  cases ho:ops[i]? with
  |none=>rw[ho] at h2;exact IE hq hn fuel _ _ _ h2
  |some o =>
   rw[ho] at h2
   have hno:Gd o=true:=np.1 hn o (by simpa using Array.mem_of_getElem? ho)
   dsimp only at h2 ⊢
   split
   .rename_i hw
    rw[lu hw] at h2
    exact Oper.wpIn_mono (λa w=>IE hq hn fuel _ a w) (Ub hno (h2.resolve_right (λe=>by obtain⟨_,a',w',e⟩:=e;exact hq _ _ e)))
   .rename_i hw
    rw[lz hw] at h2
    exact⟨λ_ _=>trivial,IE hq hn fuel _ _ _ h2⟩⟩
theorem Jn {l k:Nat} {ops:Array Oper}:∀(rest:List Oper) (a:Act) (w:World),rest.all Gd=true->wpL P ops Q rest a w->wpListIn (FW.inRound l) k P ops Q rest a w
 |[],_,_,_,h=>h
 |o::rest,a,w,hn,h=>by
  simp only[List.all_cons,mz] at hn
  unfold wpListIn
  unfold wpL at h
  split
  .rename_i hw
   rw[lu hw] at h
   exact Oper.wpIn_mono (λa w=>Jn rest a w hn.2) (Ub hn.1 h)
  .rename_i hw
   rw[lz hw] at h
   exact⟨λ_ _=>trivial,Jn rest _ _ hn.2 h⟩
theorem LO {k:Nat} {ops:Array Oper}:∀(rest:List Oper) (a:Act) (w:World),wpL P ops Q rest a w->wpListIn FW k P ops Q rest a w
 |[],_,_,h=>h
 |o::rest,a,w,h=>by
  unfold wpListIn
  unfold wpL at h
  split
  .rename_i hw
   rw[lu hw] at h
   exact Oper.wpIn_mono (λa w=>LO rest a w) (Zi h)
  .rename_i hw
   rw[lz hw] at h
   exact⟨λ_ _=>trivial,LO rest _ _ h⟩
theorem opQ {x:Oper} {a:Act} {w:World} {K K':Act->World->Prop} (h:x.wp P a w K (Exit.then K' Q)):x.wp P a w K Q:=by
 unfold Oper.wp at *
 generalize (execOp a.eval x).run P w=r at h
 cases r with
 |ok y w' =>
  cases y with
  |enter f args=>exact Calls.mono h (λe w' h=>by cases e<;>exact h)
  |_=>exact h
 |halt y w' =>
  cases y with
  |panic v=>exact h
  |_=>exact h
def yK (P:Program) (ops:Array Oper) (Q:Exit->Act->World->Prop) (o:Oper) (l2:List Oper):Act->World->Prop:=λa w=>Region.wanted o (yielded ops a.tmps)=true/\o.wpIn FW 1 P a w (wpL P ops Q l2) Q
theorem Zj {ops:Array Oper} {o:Oper} {l2:List Oper}:∀(l1:List Oper) (a:Act) (w:World),wpL P ops (Exit.then (yK P ops Q o l2) Q) l1 a w->wpListIn FW 1 P ops Q (l1++o::l2) a w
 |[],a,w,h=>by
  have h:yK P ops Q o l2 a w:=h
  show wpListIn FW 1 P ops Q (o::l2) a w
  unfold wpListIn
  rw[lu h.1]
  exact Oper.wpIn_mono (λa w=>LO l2 a w) h.2
 |x::rest,a,w,h=>by
  show wpListIn FW 1 P ops Q (x::(rest++o::l2)) a w
  unfold wpListIn
  unfold wpL at h
  split
  .rename_i hw
   rw[lu hw] at h
   have h2:x.wp P a w (wpListIn FW 1 P ops Q (rest++o::l2)) (Exit.then (yK P ops Q o l2) Q):=Oper.wp_mono (λa w=>Zj rest a w) h
   exact Zi (opQ h2)
  .rename_i hw
   rw[lz hw] at h
   exact⟨λ_ _=>trivial,Zj rest _ _ h⟩
theorem VO {id:Nat} {ops:Array Oper} {l:List Oper} (k:Nat) {o:Oper} (hl:ops=l.toArray) (ho:l[k]?=some o) (h:Pre n L X (wpL P ops (Exit.then (yK P ops Q o (l.drop (k+1))) Q) (l.take k))):Pre n L X ((Code.region id ops false).wp P Q):=λa w kn x=>by
 have e:l.take k++o::l.drop (k+1)=l:=by
  obtain⟨hlt,he⟩:=lR.1 ho
  rw[<-he,<-kV hlt,my]
 have h1:=Zj _ a w (h a w kn x)
 rw[e] at h1
 subst hl
 exact (wpIn_wide (n:=1)).1 (wpIn_region_lit h1)
theorem kk {ops:Array Oper} {o:Oper} {l2:List Oper} (hw:B0 ops L o=some true) (h:Pre n L X (λa w=>o.wpIn FW 1 P a w (wpL P ops Q l2) Q)):Pre n L X (yK P ops Q o l2):=λa w kn x=>⟨Ci kn hw,h a w kn x⟩
abbrev inR (P:Program) (l k:Nat) (c:Code) (Q:Exit->Act->World->Prop):Act->World->Prop:=λa w=>c.wpIn (FW.inRound l) k P Q a w
theorem jH {l k:Nat} {c d:Code} (h:Pre n L X (inR P l k c (Exit.then (inR P l k d Q) Q))):Pre n L X (inR P l k (Code.seq c d) Q):=λa w kn x=>wpIn_seq (h a w kn x)
theorem di {l k id:Nat} {c:Code} (h:Pre n L X (inR P l k c (Exit.inBlock id Q))):Pre n L X (inR P l k (Code.block id c) Q):=λa w kn x=>wpIn_block (h a w kn x)
theorem QT {l k id:Nat} {ops:Array Oper} (rest:List Oper) (hl:ops=rest.toArray) (hn:rest.all Gd) (h:Pre n L X (wpL P ops Q rest)):Pre n L X (inR P l k (Code.region id ops false) Q):=λa w kn x=>by
 subst hl
 exact wpIn_region_lit (Jn rest a w hn (h a w kn x))
theorem dj {l k id:Nat} {l0:List Oper} (hq:∀a w,¬Q .outgrown a w) (hn:l0.all Gd) (ord:List (Nat×DE)) (T:List Nat) (ls:List (Oper×DE)) (S:World->Prop) (hB:EK Q) (hm:P.follows .mixedOrders) (hs:Region.noSelect l0.toArray) (hT:Fq .any l0.toArray T) (hl:ord.length=l0.length)
 (h1:ls.map (λx=>some x.1)=ord.map (λx=>l0[x.1]?)) (h2:ls.map (·.2)=ord.map (·.2)) (hok:CL l0.toArray T ord (Array.replicate l0.length false))
 (hd:Mk X) (hS:∀w,X w->S w) (h:Pre n L X (wpD P l0.toArray Q S ls)):Pre n L X (inR P l k (Code.region id l0.toArray true) Q):=λa w kn x=>by
 refine wpIn_region_any hm (IE hq (by simpa using hn) _ _ _ _ (Ho (S:=S) (T:=T) _ _ _ _ ?_))
 have h1':ls.map (λx=>some x.1)=ord.map (λx=>l0.toArray[x.1]?):=by simpa using h1
 rw[List.size_toArray,<-hl]
 exact DQ hB hT hs ord ls _ a _ h1' h2 (by rw[hl];exact hok) (by rw[hl];simpa using Js (ops:=l0.toArray)) (.inl (hS _ (hd w _ x))) (h a _ kn (hd w _ x))
theorem dk {g:Operand} {ps:Array Tmp} {assign body:Code} {gf:FuncId} {lb:Array Value} {β:Type} (p:β->Prop) (HB:β->List Ent) (hg:ev L g=some (.func (.func gf) #[] lb)) (eg:∀args w,(callFunc gf args).run P w=.ok (.enter gf args) w)
 (hit:∀(a:Act) (fn:FuncId) (l D0:Nat) (W:World),Know n L a->St w0 D (DC l (.loop (QS fn a.tmps ps assign body D0))::DC D0 (.deferred (some []))::H) W->Calls P gf (#[.func (.yield l) #[] #[]]++lb) W (λe W'=>∃v b,e=.returned v/\p b/\St w0 D (DC l (.loop (QS fn a.tmps ps assign body D0))::DC D0 (.deferred (some []))::HB b) W'))
 (hdone:∀b,p b->∀(a:Act) (D0:Nat) (W:World),Know n L a->St w0 D (DC D0 (.deferred (some []))::HB b) W->Q .normal {a with defers:=[{target:=.collected D0,args:=#[]}]} W):Pre n L (St w0 D H) ((Code.rangeFunc g ps assign body).wp P Q):=λa w kn x=>by
 refine (wpIn_wide (n:=1)).1 (wpIn_rangeFunc (λfn _=>?_))
 have hs1:=St.alloc (o:=.deferred (some [])) (φ:=λx=>x=some (.deferred (some []))) x rfl
 have hs2:=St.alloc (o:=.loop (QS fn a.tmps ps assign body w.heap.size)) (φ:=λx=>x=some (.loop (QS fn a.tmps ps assign body w.heap.size))) hs1 rfl
 rw[mW] at hs2
 have he:=run_enterLoop_outer (P:=P) (w:=w) fn a.tmps ps assign body
 obtain⟨W1,hW1⟩:∃W1,W1=(w.alloc (.deferred (some []))).alloc (.loop (QS fn a.tmps ps assign body w.heap.size)):=⟨_,rfl⟩
 have hs3:St w0 D (DC (w.heap.size+1) (.loop (QS fn a.tmps ps assign body w.heap.size))::DC w.heap.size (.deferred (some []))::H) W1:=by rw[hW1];exact hs2
 have he1:(Instr.enterLoop fn a.tmps ps assign body none).run P w=.ok (w.heap.size+1,[{target:=.collected w.heap.size,args:=#[]}]) W1:=by rw[he,hW1]
 have hres:(resolve a.eval (rangeCall g (w.heap.size+1)) 0).run P W1=.ok {target:=.fn (.func gf) lb,args:=#[.func (.yield (w.heap.size+1)) #[] #[]]} W1:=by
  simp only[resolve,kn.eval hg]
  simp[go_sem]
 have hinv:(invoke (.fn (.func gf) lb) #[.func (.yield (w.heap.size+1)) #[] #[]]).run P W1=.ok (.enter gf (#[.func (.yield (w.heap.size+1)) #[] #[]]++lb)) W1:=by
  simp[invoke,go_sem,eg]
 have hcall:=hit a fn (w.heap.size+1) w.heap.size W1 kn hs3
 clear hs1 hs2 he hW1
 refine⟨w.heap.size+1,[{target:=.collected w.heap.size,args:=#[]}],W1,{target:=.fn (.func gf) lb,args:=#[.func (.yield (w.heap.size+1)) #[] #[]]},W1,gf,#[.func (.yield (w.heap.size+1)) #[] #[]]++lb,W1,he1,hres,λ_ _=>trivial,hinv,λh=>(by cases h),?_⟩
 refine callsIn_wide.2 (hcall.mono ?_)
 rintro e W' ⟨v,b,rfl,hp,hst⟩
 have hl:W'.heap[w.heap.size+1]?=some (.loop (QS fn a.tmps ps assign body w.heap.size)):=hst.at 0 rfl
 refine⟨none,_,run_endLoop hl (show LoopState.ready≠.busy by decide),?_⟩
 show Q .normal {a with defers:=[{target:=.collected w.heap.size,args:=#[]}]++a.defers} _
 rw[kn.defers]
 exact hdone b hp a w.heap.size _ kn (hst.put _).drop
theorem dm {o:Oper} {g:Operand} {xs:List Operand} {ts:Array TypeId} {d l k:Nat} {rec:Loop} {vs:List Value} {X':World->Prop} {K:Act->World->Prop} (ho:o.op=.call ⟨.value g,xs.toArray,ts⟩) (hd:o.dst=some d) (hn:d.blt n) (hg:ev L g=some (.func (.yield l) #[] #[])) (hv:evs L xs=some vs) (hsz:vs.length=rec.params.size)
 (hl:∀w,X w->w.heap[l]?=some (.loop rec)) (hr:∀w,X w->RoundIn FW (k-1) P l rec.fn ((rec.params.zip vs.toArray).foldl (λtmps (t,a)=>tmps.setIfInBounds t a) rec.tmps) rec.assign rec.body w (λe w'=>e=.returned (.bool true)/\X' w')) (h:Pre n ((d,.bool true)::L) X' K):Pre n L X (λa w=>o.wpIn FW k P a w K Q):=λa w kn x=>by
 refine⟨λ_ _=>trivial,?_⟩
 have hargs:(xs.toArray.map a.eval)=vs.toArray:=by rw[l8,kn.evals hv]
 have hy:(Instr.yield l vs.toArray).run P w=.ok (.round l rec.fn ((rec.params.zip vs.toArray).foldl (λtmps (t,a)=>tmps.setIfInBounds t a) rec.tmps) rec.assign rec.body) w:=run_yield (hl w x) (by simpa using hsz)
 have hrun:(execOp a.eval o).run P w=.ok (.round l rec.fn ((rec.params.zip vs.toArray).foldl (λtmps (t,a)=>tmps.setIfInBounds t a) rec.tmps) rec.assign rec.body) w:=by
  simp only[execOp,ho,resolve,kn.eval hg,Deferred.ofValue,l5,l6,l7,invoke,hargs]
  simpa using hy
 show o.uponIn FW k P a K Q ((execOp a.eval o).run P w)
 rw[hrun]
 refine⟨λh=>(by cases h),(hr w x).mono ?_⟩
 rintro e w' ⟨rfl,hx⟩
 show K (a.put o.dst (.bool true)) w'
 rw[hd]
 exact h _ _ (kn.put _ hn) hx
def er (P:Program) (w0:World) (D:List Nat) (l k:Nat) (rec:Loop) (H:List Ent) {β:Type} (HB:β->List Ent):Act->World->Prop:=λa w=>St w0 D (DC l (.loop rec)::H) w/\inR P l k rec.body (λe _ w=>e=.normal/\∃b,St w0 D (DC l (.loop {rec with state:=.busy})::HB b) w) a (w.putObj l (.loop {rec with state:=.busy}))
theorem g8 {l k:Nat} {rec:Loop} {β:Type} {HB:β->List Ent} (h:Pre n L (St w0 D (DC l (.loop {rec with state:=.busy})::H)) (inR P l k rec.body (λe _ w=>e=.normal/\∃b,St w0 D (DC l (.loop {rec with state:=.busy})::HB b) w))):Pre n L (St w0 D (DC l (.loop rec)::H)) (er P w0 D l k rec H HB):=λa _ kn hw=>⟨hw,h a _ kn (hw.put _)⟩
theorem Zk {l k m:Nat} {rec:Loop} {tmps':Array Value} {LB:Env} {β:Type} {HB:β->List Ent} (hs:rec.state=.ready) (hp:rec.pending=none) (hk:Know m LB {tmps:=tmps',defers:=[]}) {H:List Ent} {w:World} (hw:St w0 D (DC l (.loop rec)::H) w)
 (ha:Pre m LB (St w0 D (DC l (.loop rec)::H)) (inR P l k rec.assign (Exit.then (er P w0 D l k rec H HB) (λ_ _ _=>False)))):RoundIn FW k P l rec.fn tmps' rec.assign rec.body w (λe w'=>e=.returned (.bool true)/\∃b,St w0 D (DC l (.loop rec)::HB b) w'):=by
 refine roundIn_of_wpIn trivial (wpIn_mono (ha _ w hk hw) ?_)
 intro e a1 w1 h1
 cases e with
 |normal =>
  obtain⟨hw1,h2⟩:=h1
  have hl1:w1.heap[l]?=some (.loop rec):=hw1.at 0 rfl
  refine⟨_,run_beginRound hl1 hs,wpIn_mono h2 ?_⟩
  rintro e2 a2 w2 ⟨rfl,b,hw2⟩
  have hl2:w2.heap[l]?=some (.loop {rec with state:=.busy}):=hw2.at 0 rfl
  refine⟨_,_,run_endRound none hl2,rfl,b,?_⟩
  have:=hw2.put (.loop {({rec with state:=.busy}:Loop) with state:=if (none:Option Code).isNone then .ready else .done,pending:=none})
  have e:({({rec with state:=.busy}:Loop) with state:=if (none:Option Code).isNone then .ready else .done,pending:=none}:Loop)=rec:=by
   cases rec;cases hs;cases hp;rfl
  rw[e] at this
  rw[e];exact this
 |_=>exact h1.elim
theorem Zl {Z:World->Prop}:EK (λe _ w=>e=.normal/\Z w):=λc a d v w hq=>by cases hq.1
theorem g9 {f:Nat} {fn:Func} {c:Code} {vs:List Value} {w:World} {R:Ending->World->Prop} (X:World->Prop) (hf:P.funcs[f]?=some fn) (hb:fn.body=some c) (hnn:fn.ntmps=n) (hs:vs.length.ble n) (hX:X w)
 (h:Pre n (Hk 0 vs) X (c.wp P (bodyPostM FW 1 P fn R))):Calls P f vs.toArray w R:=by
 subst hnn
 refine (callsIn_wide (n:=1)).1 (callsIn_of_wp_marks hf hb trivial (wpIn_wide.2 (h _ w ⟨?_,rfl,λi v hv=>?_⟩ hX)))
 .have:=ng hs
  simp;omega
 .obtain⟨j,e,hj⟩:=Hl vs 0 i v hv
  have:i=j:=by omega
  subst this
  have hlt:i<vs.length:=(lR.1 hj).1
  simp[Array.getElem?_append,hlt]
  simpa [kY hlt] using hj
theorem dp {id D0 d t:Nat} {fn:Func} {R:Ending->World->Prop} {o1 o2:Oper} {v1 v2:Value} {a:Act} {W:World} (hd:o1.dst=some d) (ht:o2.dst=some t) (g1:o1.guard=none) (g2:o2.guard=none) (hn:d.blt n) (hm:t.blt n) (hr:fn.results=#[.tmp t]) (q1:QOp P n L X o1 v1) (q2:QOp P n ((d,v1)::L) X o2 v2) (kn:Know n L a) (hx:X W) (hob:W.heap[D0]?=some (.deferred (some []))) (hR:R (.returned v2) (W.putObj D0 (.deferred none))):(Code.seq (.region id #[o1,o2] false) .ret).wp P (bodyPostM FW 1 P fn R) {a with defers:=[{target:=.collected D0,args:=#[]}]} W:=by
 refine wp_seq (wp_region (List.range_eq_range'▸II [o1,o2] 0 (λj=>by simp) _ _ ?_))
 have e1:=q1 a W kn hx
 have k1:=kn.put v1 hn
 have e2:=q2 _ W k1 hx
 have k2:=k1.put v2 hm
 unfold wpL
 rw[lu (by unfold Region.wanted;rw[g1])]
 unfold Oper.wp
 rw[show (execOp ({a with defers:=[{target:=.collected D0,args:=#[]}]}:Act).eval o1).run P W=_ from e1]
 show wpL P _ _ [o2] _ W
 rw[hd]
 unfold wpL
 rw[lu (by unfold Region.wanted;rw[g2])]
 unfold Oper.wp
 rw[show (execOp (Act.put {a with defers:=[{target:=.collected D0,args:=#[]}]} (some d) v1).eval o2).run P W=_ from e2]
 show (Code.ret).wp P _ _ W
 rw[ht]
 refine wp_ret ⟨by simp,.inl ⟨D0,_,rfl,run_takeDeferred hob,v2,?_,hR⟩⟩
 exact Fm (rs:=[.tmp t]) (vs:=[v2]) k2 hr (by simp[Jr,look])
end
end Go.Sep
namespace Go.Proofs.YtloldofjddbjoaaGreat
open Go.Sep Go.RowKit Tryz
variable {va vp:Value}
theorem Uc {α:Type} {E:Enc α} {l:List α} {a:Option Addr} {c:Nat} {w:World} (h:RdV w (.slice a l.length c) E l) {i m:Nat} (h1:i<=m) (h2:m<=l.length):RdV w (.slice (if m=i then a else a.map (λq:Addr=>q.add (i*E.sz))) (m-i) (m-i)) E ((l.take m).drop i):=by
 obtain⟨a',c',e,hc,h⟩:=h
 cases e
 have hlen:((l.take m).drop i).length=m-i:=by rw[lk,k9];omega
 refine⟨_,m-i,by rw[hlen],by omega,?_⟩
 by_cases hd:m=i
 .exact .inl (lA (by omega))
 .rcases h with rfl|⟨b,off,rfl,h⟩
  .simp at h2;omega
  .refine .inr ⟨b,off+i*E.sz,?_,λk u hu=>?_⟩
   .rw[lz hd];simp[BJ]
   .rw[<-E.flat_drop,<-E.flat_take,ly,lr] at hu
    split at hu
    .have:=h _ _ hu;rwa[<-mq] at this
    .cases hu
abbrev Zm (va:Value) (l:List Ms) (p:List Ms) (v:Value):Prop:=∀w,RdV w va Ms.enc l->RdV w v Ms.enc p
theorem Sq (l:List Ms) (pv:Kv 8) (hr:BE Ms.key l) (hn:l.length<=60000):Con prog 59 [va,vp,.int .i64 0] (λw=>RdV w va Ms.enc l/\RdV w vp (Kv.enc 8) [pv]) [] (λv:Value=>v) (λv=>Zm va l (l.take (Cf Ms.key l pv)) v) (λ_=>[]):=by
 intro w hE hH
 obtain⟨hl,hp⟩:=hE
 obtain⟨av,cv,rfl⟩:=FI hl
 obtain⟨g,hg⟩:∃g,g=Cf Ms.key l pv:=⟨_,rfl⟩
 have hgl:g<=l.length:=by rw[hg];exact GY _ _
 refine E0 func59 I hH (Cs I (Ak I (Cs I (Lm I (Lq I (AJ I BO I hl.kp) (Las I (Ak I (Af (Cs I (Mv 3 I (Sb 13 false I (by first|rfl|decide|simp) (Mv 2 I (Lq I (AJ I FJ I hp.kp) (Lq I (BQ I I I) (Lq I (Qz I) (Nk (Sb 18 false I (by first|rfl|decide|simp) (Aa I (Ae (Ks (Cs I ?_)))))))))))))))))))))
 refine Lm I (Lq I (BQ I I I) (Nk (Sb 20 false I (by first|rfl|decide|simp) (Aa I (Ae (Ks (Cs I (Mv 2 I (Lq I (AJ I FJ I hp.kp) (Lq I (Ql I) (Nk (Sb 34 true I (by first|rfl|decide|simp) (Ah I (Cr I (Mv 3 I (Lq I (Ar 0 I FJ Z77 I hp.kp I I (Nat.lt_succ_self 0)) (Lq I (AV 0 I G77 Z77 I I hp.kp (show [pv][0]?=some pv from I)) (l_e I (E1 (Fv l pv hr hn) I call109 hl.kp ?_)))))))))))))))))))
 intro _ _
 rw[<-hg]
 refine Mv 3 I (Ak I (Af (Cs I (Mv 3 I (Nk (CB 46 I (λhc=>?_) (λhc=>?_)))))))
 .exact Ah I (Cs I (Ak I (Ag (Ac (Ao I I (λ_ h=>⟨Cb,rfl,λw2 _=>by rw[show l.take g=[] from lA (by first|(rw[k9];omega)|(rw[lk];omega))];exact EI _,h⟩))))))
 .exact Aa I (Ae (Kt (Cs I (Mv 4 I (Lq I (Gs 0 g g I BO Bl I hl.kp I I I I I I (by omega) (lJ _) (by omega)) (Ak I (Ag (Ao I I (λ_ h=>⟨_,rfl,λw2 h2=>by have:=Uc h2 (i:=0) (m:=g) (by omega) (by omega);simpa using this,h⟩)))))))))
theorem Sr (l:List Ms) (pv:Kv 8) (hr:BE Ms.key l) (hn:l.length<=60000):Con prog 59 [va,vp,.int .i64 1] (λw=>RdV w va Ms.enc l/\RdV w vp (Kv.enc 8) [pv]) [] (λv:Value=>v) (λv=>Zm va l (l.drop (Cf Ms.key l pv)) v) (λ_=>[]):=by
 intro w hE hH
 obtain⟨hl,hp⟩:=hE
 obtain⟨av,cv,rfl⟩:=FI hl
 obtain⟨g,hg⟩:∃g,g=Cf Ms.key l pv:=⟨_,rfl⟩
 have hgl:g<=l.length:=by rw[hg];exact GY _ _
 refine E0 func59 I hH (Cs I (Ak I (Cs I (Lm I (Lq I (AJ I BO I hl.kp) (Las I (Ak I (Af (Cs I (Mv 3 I (Sb 13 false I (by first|rfl|decide|simp) (Mv 2 I (Lq I (AJ I FJ I hp.kp) (Lq I (BQ I I I) (Lq I (Qz I) (Nk (Sb 18 false I (by first|rfl|decide|simp) (Aa I (Ae (Ks (Cs I ?_)))))))))))))))))))))
 refine Lm I (Lq I (BQ I I I) (Nk (Sb 20 true I (by first|rfl|decide|simp) (Ah I (Cr I (Mv 3 I (Lq I (CM I I I (by decide)) (Lq I (Ar 0 I FJ Z77 I hp.kp I I (Nat.lt_succ_self 0)) (Lq I (AV 0 I G77 Z77 I I hp.kp (show [pv][0]?=some pv from I)) (l_e I (E1 (Fv l pv hr hn) I call109 hl.kp ?_)))))))))))
 intro _ _
 rw[<-hg]
 refine Mv 3 I (Ak I (Af (Cs I (Mv 2 I (Lq I (AJ I FJ I hp.kp) (Lq I (Ql I) (Nk (Sb 34 false I (by first|rfl|decide|simp) (Aa I (Ae (Ks (Cs I (Mv 3 I (Nk (CB 46 I (λhc=>?_) (λhc=>?_))))))))))))))))
 .exact Ah I (Cs I (Ak I (Ag (Ac (Ao I I (λ_ h=>⟨Cb,rfl,λw2 _=>by rw[show l.drop g=[] from lA (by first|(rw[k9];omega)|(rw[lk];omega))];exact EI _,h⟩))))))
 .exact Aa I (Ae (Kt (Cs I (Mv 4 I (Lq I (Gs g l.length l.length I BO Bl I hl.kp I I I I I I (by omega) (lJ _) (by omega)) (Ak I (Ag (Ao I I (λ_ h=>⟨_,rfl,λw2 h2=>by have:=Uc h2 (i:=g) (m:=l.length) (by omega) (by omega);simpa using this,h⟩)))))))))
end Go.Proofs.YtloldofjddbjoaaGreat
