/- Part 8 of the proof. No condition. -/
import Derived.Test.YtloldofjddbjoaaGreatT7
set_option linter.unusedVariables false
set_option linter.unusedSimpArgs false
set_option maxHeartbeats 8000000
set_option maxRecDepth 100000
namespace Go.Proofs.YtloldofjddbjoaaGreat
open Go.Sep Go.RowKit Tryz
variable {va:Value}
theorem TJ (l:List En) (c:Ca) (hs:B8 l) (hn:l.length<=1000) (hw:(Lit.int .i64 c.a.code).wf=true) (hF:fB c=false) (hT:BX c.op=false) (hkd:c.op.kind=4):Con prog 22 [va,.agg c.c.toArray] (fun w=>RdV w va En.enc l) [] (fun _:Unit=>.tuple #[va,.bool (BA l c).2]) (fun _=>True) (fun _=>[]):=by
 intro w hl hH
 refine E0 func22 I hH ?_
 refine Cs I (l_e I (AQ I I I I (fun bc=>Ce c.c I (Las I (Ak I (Ag (Cs I (Lq I (Cq (c.c) G60 Z60 0 I (fZ (by rw[fV,Ca.e6];decide)) (Ca.e6 _)) (l_e I (E1 (Ds c) I call63 Tt (fun _ _=>Nk (Sb 9 false I (hF) (Ab I (Ae (Kt (Cs I (Lm I (Lfa U60 I Z43 I (Lq I (Cq (c.op.c) G43 Z43 0 I (Ca.op_part _) (I)) (l_e I (E1 (YU l c.op hs hn hT hkd) I call33 (fun _ h=>hl.keep h (by simp)) (fun _ _=>Lm I (Lq I (Qx I) (Lq I (Qx I) (l_e I (Au I I I zeroValue58 (fun ba=>Ce (Ans.c Bx) I (Las I (l_e I (Ah I I Z58 I I (Ans.e6 _) (Ans.one _) (by simp only[Ans.e6];decide) (Ce (Ans.c (⟨0,(AS l (kOf c.op)).2,(AS l (kOf c.op)).1⟩:Ans)) (Sep.e7 (by simp only[Ans.e6])) (Ns (Do8 (rg 12) 354294 _ I St.drawn Ih (Dm I (Dfa U60 I Z3 I (Dq I (Ao I G3 I (Hat 1 I) I) (Dq I (Ql I) (Dm I ?_))))))))))))))))))))))))))))))))))))))
 refine CB 31 I (fun h2=>?_) (fun h2=>?_)
 · refine Dx I (Dx I (Dx I (Dx I (Dq I (Qy I) (Das I (d_t I (e_q I I (AE I I) (AK (Kt (Af (Be (rs:=[.tmp 4,.tmp 5]) I I ?_)))))))))))
   exact fun _ h=>⟨(),by rw[Fs hF (MW hT hkd)];exact congrArg (fun z=>Ending.returned (Value.tuple #[va,.bool z])) (by first|exact Jc (jq (by omega))|exact Jd (jo (by omega))),trivial,h.e8⟩
 · refine Dq I (Cq (Ans.c (⟨0,(AS l (kOf c.op)).2,(AS l (kOf c.op)).1⟩:Ans)) G58 Z58 0 I (fZ (by rw[fV,Ans.e6];decide)) (Ans.e6 _)) (Dfa U60 I Z58 I (Dq I (Cq (c.a.c) G58 Z58 1 I (Ca.a_part _) (Ans.e6 _)) (Dq I (KC ((⟨0,(AS l (kOf c.op)).2,(AS l (kOf c.op)).1⟩:Ans)) (c.a) I I I) (Dq I (Qz I) (Das I (d_t I (e_q I I (AE I I) (AK (Kt (Af (Be (rs:=[.tmp 4,.tmp 5]) I I ?_)))))))))))
   exact fun _ h=>⟨(),by rw[Fs hF (MW hT hkd)];exact congrArg (fun z=>Ending.returned (Value.tuple #[va,.bool z])) (by first|exact Jc (jq (by omega))|exact Jd (jo (by omega))),trivial,h.e8⟩
theorem Qu (l:List En) (c:Ca) (hs:B8 l) (hn:l.length<=1000) (hw:(Lit.int .i64 c.a.code).wf=true) (hck:∀e∈l,kck e.key=true) (hF:fB c=false) (hT:BX c.op=false) (hkd:c.op.kind=1):Con prog 22 [va,.agg c.c.toArray] (fun w=>RdV w va En.enc l) [] (fun v:Value=>.tuple #[v,.bool (BA l c).2]) (fun _=>True) (fun v=>[Az v 79 En.enc (BA l c).1]):=by
 intro w hl hH
 refine E0 func22 I hH ?_
 refine Cs I (l_e I (AQ I I I I (fun bc=>Ce c.c I (Las I (Ak I (Ag (Cs I (Lq I (Cq (c.c) G60 Z60 0 I (fZ (by rw[fV,Ca.e6];decide)) (Ca.e6 _)) (l_e I (E1 (Ds c) I call63 Tt (fun _ _=>Nk (Sb 9 false I (hF) (Ab I (Ae (Kt (Cs I (Lm I (Lfa U60 I Z43 I (Lq I (Cq (c.op.c) G43 Z43 0 I (Ca.op_part _) (I)) (l_e I (AX (WU l c.op hs hn hck hT hkd) I I I call33 I (fun _ h=>hl.keep h (by simp)) (fun v _=>Lm I (Lq I (Qx I) (Lq I (Qx I) (l_e I (Au I I I zeroValue58 (fun ba=>Ce (Ans.c Bx) I (Las I (l_e I (Ah I I Z58 I I (Ans.e6 _) (Ans.one _) (by simp only[Ans.e6];decide) (Ce (Ans.c Bx) (Sep.e7 (by simp only[Ans.e6])) (Ns (Do8 (rg 12) 354294 _ I St.drawn Ih (Dm I (Dfa U60 I Z3 I (Dq I (Ao I G3 I (Hat 2 I) I) (Dq I (Ql I) (Dm I ?_))))))))))))))))))))))))))))))))))))))
 refine CB 31 I (fun h2=>?_) (fun h2=>?_)
 · refine Dx I (Dx I (Dx I (Dx I (Dq I (Qy I) (Das I (d_t I (e_q I I (AE I I) (AK (Kt (Af (Pm [0,1] I (Be (rs:=[.tmp 4,.tmp 5]) I I ?_))))))))))))
   exact fun _ h=>⟨v,by rw[Fs hF (D9 hT (by omega))];exact congrArg (fun z=>Ending.returned (Value.tuple #[v,.bool z])) (by first|exact Jc (jq (by omega))|exact Jd (jo (by omega))),trivial,by rw[Fs hF (D9 hT (by omega))];exact h.drop.drop⟩
 · refine Dq I (Cq (Ans.c Bx) G58 Z58 0 I (fZ (by rw[fV,Ans.e6];decide)) (Ans.e6 _)) (Dfa U60 I Z58 I (Dq I (Cq (c.a.c) G58 Z58 2 I (Ca.a_part _) (Ans.e6 _)) (Dq I (KC (Bx) (c.a) I I I) (Dq I (Qz I) (Das I (d_t I (e_q I I (AE I I) (AK (Kt (Af (Pm [0,1] I (Be (rs:=[.tmp 4,.tmp 5]) I I ?_))))))))))))
   exact fun _ h=>⟨v,by rw[Fs hF (D9 hT (by omega))];exact congrArg (fun z=>Ending.returned (Value.tuple #[v,.bool z])) (by first|exact Jc (jq (by omega))|exact Jd (jo (by omega))),trivial,by rw[Fs hF (D9 hT (by omega))];exact h.drop.drop⟩
theorem Qv (l:List En) (c:Ca) (hs:B8 l) (hn:l.length<=1000) (hw:(Lit.int .i64 c.a.code).wf=true) (hck:∀e∈l,kck e.key=true) (hF:fB c=false) (hT:BX c.op=false) (hkd:c.op.kind=2):Con prog 22 [va,.agg c.c.toArray] (fun w=>RdV w va En.enc l) [] (fun v:Value=>.tuple #[v,.bool (BA l c).2]) (fun _=>True) (fun v=>[Az v 79 En.enc (BA l c).1]):=by
 intro w hl hH
 refine E0 func22 I hH ?_
 refine Cs I (l_e I (AQ I I I I (fun bc=>Ce c.c I (Las I (Ak I (Ag (Cs I (Lq I (Cq (c.c) G60 Z60 0 I (fZ (by rw[fV,Ca.e6];decide)) (Ca.e6 _)) (l_e I (E1 (Ds c) I call63 Tt (fun _ _=>Nk (Sb 9 false I (hF) (Ab I (Ae (Kt (Cs I (Lm I (Lfa U60 I Z43 I (Lq I (Cq (c.op.c) G43 Z43 0 I (Ca.op_part _) (I)) (l_e I (AX (WV l c.op hs hn hck hT hkd) I I I call33 I (fun _ h=>hl.keep h (by simp)) (fun v _=>Lm I (Lq I (Qx I) (Lq I (Qx I) (l_e I (Au I I I zeroValue58 (fun ba=>Ce (Ans.c Bx) I (Las I (l_e I (Ah I I Z58 I I (Ans.e6 _) (Ans.one _) (by simp only[Ans.e6];decide) (Ce (Ans.c Bx) (Sep.e7 (by simp only[Ans.e6])) (Ns (Do8 (rg 12) 354294 _ I St.drawn Ih (Dm I (Dfa U60 I Z3 I (Dq I (Ao I G3 I (Hat 2 I) I) (Dq I (Ql I) (Dm I ?_))))))))))))))))))))))))))))))))))))))
 refine CB 31 I (fun h2=>?_) (fun h2=>?_)
 · refine Dx I (Dx I (Dx I (Dx I (Dq I (Qy I) (Das I (d_t I (e_q I I (AE I I) (AK (Kt (Af (Pm [0,1] I (Be (rs:=[.tmp 4,.tmp 5]) I I ?_))))))))))))
   exact fun _ h=>⟨v,by rw[Fs hF (D9 hT (by omega))];exact congrArg (fun z=>Ending.returned (Value.tuple #[v,.bool z])) (by first|exact Jc (jq (by omega))|exact Jd (jo (by omega))),trivial,by rw[Fs hF (D9 hT (by omega))];exact h.drop.drop⟩
 · refine Dq I (Cq (Ans.c Bx) G58 Z58 0 I (fZ (by rw[fV,Ans.e6];decide)) (Ans.e6 _)) (Dfa U60 I Z58 I (Dq I (Cq (c.a.c) G58 Z58 2 I (Ca.a_part _) (Ans.e6 _)) (Dq I (KC (Bx) (c.a) I I I) (Dq I (Qz I) (Das I (d_t I (e_q I I (AE I I) (AK (Kt (Af (Pm [0,1] I (Be (rs:=[.tmp 4,.tmp 5]) I I ?_))))))))))))
   exact fun _ h=>⟨v,by rw[Fs hF (D9 hT (by omega))];exact congrArg (fun z=>Ending.returned (Value.tuple #[v,.bool z])) (by first|exact Jc (jq (by omega))|exact Jd (jo (by omega))),trivial,by rw[Fs hF (D9 hT (by omega))];exact h.drop.drop⟩
theorem Qw (l:List En) (c:Ca) (hs:B8 l) (hn:l.length<=1000) (hw:(Lit.int .i64 c.a.code).wf=true) (hck:∀e∈l,kck e.key=true) (hF:fB c=false) (hT:BX c.op=false) (hkd:c.op.kind=3):Con prog 22 [va,.agg c.c.toArray] (fun w=>RdV w va En.enc l) [] (fun v:Value=>.tuple #[v,.bool (BA l c).2]) (fun _=>True) (fun v=>[Az v 79 En.enc (BA l c).1]):=by
 intro w hl hH
 refine E0 func22 I hH ?_
 refine Cs I (l_e I (AQ I I I I (fun bc=>Ce c.c I (Las I (Ak I (Ag (Cs I (Lq I (Cq (c.c) G60 Z60 0 I (fZ (by rw[fV,Ca.e6];decide)) (Ca.e6 _)) (l_e I (E1 (Ds c) I call63 Tt (fun _ _=>Nk (Sb 9 false I (hF) (Ab I (Ae (Kt (Cs I (Lm I (Lfa U60 I Z43 I (Lq I (Cq (c.op.c) G43 Z43 0 I (Ca.op_part _) (I)) (l_e I (AX (WW l c.op hs hn hck hT hkd) I I I call33 I (fun _ h=>hl.keep h (by simp)) (fun v _=>Lm I (Lq I (Qx I) (Lq I (Qx I) (l_e I (Au I I I zeroValue58 (fun ba=>Ce (Ans.c Bx) I (Las I (l_e I (Ah I I Z58 I I (Ans.e6 _) (Ans.one _) (by simp only[Ans.e6];decide) (Ce (Ans.c Bx) (Sep.e7 (by simp only[Ans.e6])) (Ns (Do8 (rg 12) 354294 _ I St.drawn Ih (Dm I (Dfa U60 I Z3 I (Dq I (Ao I G3 I (Hat 2 I) I) (Dq I (Ql I) (Dm I ?_))))))))))))))))))))))))))))))))))))))
 refine CB 31 I (fun h2=>?_) (fun h2=>?_)
 · refine Dx I (Dx I (Dx I (Dx I (Dq I (Qy I) (Das I (d_t I (e_q I I (AE I I) (AK (Kt (Af (Pm [0,1] I (Be (rs:=[.tmp 4,.tmp 5]) I I ?_))))))))))))
   exact fun _ h=>⟨v,by rw[Fs hF (D9 hT (by omega))];exact congrArg (fun z=>Ending.returned (Value.tuple #[v,.bool z])) (by first|exact Jc (jq (by omega))|exact Jd (jo (by omega))),trivial,by rw[Fs hF (D9 hT (by omega))];exact h.drop.drop⟩
 · refine Dq I (Cq (Ans.c Bx) G58 Z58 0 I (fZ (by rw[fV,Ans.e6];decide)) (Ans.e6 _)) (Dfa U60 I Z58 I (Dq I (Cq (c.a.c) G58 Z58 2 I (Ca.a_part _) (Ans.e6 _)) (Dq I (KC (Bx) (c.a) I I I) (Dq I (Qz I) (Das I (d_t I (e_q I I (AE I I) (AK (Kt (Af (Pm [0,1] I (Be (rs:=[.tmp 4,.tmp 5]) I I ?_))))))))))))
   exact fun _ h=>⟨v,by rw[Fs hF (D9 hT (by omega))];exact congrArg (fun z=>Ending.returned (Value.tuple #[v,.bool z])) (by first|exact Jc (jq (by omega))|exact Jd (jo (by omega))),trivial,by rw[Fs hF (D9 hT (by omega))];exact h.drop.drop⟩
end Go.Proofs.YtloldofjddbjoaaGreat
namespace Go.Proofs.YtloldofjddbjoaaGreat
open Go.Sep Go.RowKit Tryz
variable {l:List En} {G:List Ent} {met:List (Int×Sv)} {ms:List (List En)} {set:Int} {i:Nat} {v:Value} {t u:TypeId} {x y:Operand}
def Em:Enc (Int×Sv):=⟨2,fun p=>[.int .i64 p.1,p.2.v],fun _=>rfl,fun a u h=>by simp at h;rcases h with rfl|rfl<;>rfl,by decide⟩
def RIn (G:List Ent) (v:Value) (l:List En):Prop:=(v=Cg/\l=[])\/Az v 79 En.enc l∈G
theorem RIn.rd {H:List Ent} {w0 w:World} {D:List Nat} (h:RIn G v l) (s:St w0 D H w) (hs:∀e∈G,e∈H):RdV w v En.enc l:=by
 rcases h with⟨rfl,rfl⟩|h
 · exact Fc _
 · exact BO (s.hp.holds _ (hs _ h))
theorem RIn.more {G':List Ent} (h:RIn G v l) (hs:∀e∈G,e∈G'):RIn G' v l:=h.imp id (hs _)
def GN (met:List (Int×Sv)) (ms:List (List En)) (set:Int) (l:List En):Bool:=(List.range met.length).any (fun i=>decide ((met.getD i (0,sv0)).1=set)&&decide (ms.getD i []=l))
theorem LU {p:Int×Sv} (hp:met[i]?=some p) (h1:p.1=set) (h2:ms[i]?=some l):GN met ms set l=true:=by
 unfold GN
 rw[iB]
 refine⟨i,gk.2 (gl.1 hp).1,?_⟩
 rw[ju,ju,hp,h2]
 simp[h1]
theorem W0 (hl:ms.length=met.length) (h:∀i p e,i<met.length->met[i]?=some p->ms[i]?=some e->p.1≠set\/e≠l):GN met ms set l=false:=by
 unfold GN
 rw[List.any_eq_false]
 intro i hi
 have hi:=gk.1 hi
 have h1:=h i _ _ hi (fD hi) (fD (by omega))
 rw[ju,ju,fD hi,fD (show i<ms.length by omega)]
 simp only[gq,gQ,ia]
 rintro⟨a,b⟩
 rcases h1 with h1|h1
 · exact h1 a
 · exact h1 b
abbrev SRE (bs:Nat) (vl vm:Value):Ent:=Ad bs 196 [vl,vm,.int .i64 0]
theorem Ap2 {P:Program} {n:Nat} {L:Env} {Q:Exit->Act->World->Prop} {K:Act->World->Prop} {w0:World} {D:List Nat} {H:List Ent} {o:Oper} {α:Type} {E:Enc α} {l m:List α} {v xv z:Value} {s x:Operand} {t tx e e':TypeId} {i:TypeInfo} {d:Nat} (ht:P.underlying t=some (.slice e)) (htx:P.underlying tx=some (.slice e')) (hi:P.info? e=some i) (h1:(o.op,o.dst,d.blt n,i.size,i.zero,z.cells.size,ev L s,ev L x,i.bytes.ble 32)=(.call ⟨.builtin .append,#[s,x],#[t,tx]⟩,some d,true,E.sz,some z,E.sz,some v,some xv,true)) (hx:∀w,St w0 D (Az v e E l::H) w->RdV w xv E m) (hb:l.length+m.length<=4398046511104)
 (h:∀v',Pre n ((d,v')::L) (St w0 D (Az v' e E (l++m)::H)) K):EOp P n L (St w0 D (Az v e E l::H)) o Q K:=by
 simp only[Prod.mk.injEq] at h1
 obtain⟨a1,a2,a3,a4,a5,a6,a7,a8,a9⟩:=h1
 exact BZ a1 a2 a3 ht htx hi a4 a5 a6 a7 a8 hx (gF (Nat.mul_le_mul hb (iy a9)) (by decide)) (gF hb (by decide)) h
theorem QA {bs:Nat} {vl vm:Value} {mv:Sv} {m:List En} (hn:met.length<=4000000000000) (hl:ms.length=met.length) (hms:∀(i:Nat) (p:Int×Sv) (e:List En),met[i]?=some p->ms[i]?=some e->RIn G p.2.v e) (hl1:∀e∈ms,e.length<=1000) (hm:RIn G mv.v m):Con prog 153 [ptV bs,.int .i64 set,mv.v] (fun _=>True) (SRE bs vl vm::Az vm 320 Em met::G) (fun v:Value=>.bool (GN met ms set m)) (fun _=>True) (fun v=>SRE bs vl v::Az v 320 Em (if GN met ms set m=true then met else met++[(set,mv)])::G):=by
 intro w hE hH
 refine Ey func153 I hH ?_
 refine Cs I (Ak I (Ag (Cs I (Ak I (Al ?_)))))
 refine Bc (fun (i:Nat)=>[(0,ptV bs),(1,.int .i64 set),(2,mv.v),(7,.int .i64 (i:Int))]) (fun (i:Nat)=>St w (dom (SRE bs vl vm::Az vm 320 Em met::G)) (SRE bs vl vm::Az vm 320 Em met::G)) (fun (i:Nat)=>i<=met.length/\∀j p e,j<i->met[j]?=some p->ms[j]?=some e->p.1≠set\/e≠m) (fun (i:Nat)=>met.length-i) (0) ⟨gb _,fun j p e h=>absurd h (jy _)⟩ (Si I) Ih (fun i hq=>Ag (Ag ?_))
 obtain⟨hi,hno⟩:=hq
 refine Cr I (Lm I (Lm I (Lc I (Lfa Me I Se I (Lo isAgg194 0 I (Lq I (AL I Sg I (Hrd 1 I)) (Lq I (Ql I) (Nk ?_))))))))
 refine CB 14 I (fun h1=>?_) (fun h1=>?_)
 · obtain⟨p,hp⟩:∃p,met[i]?=some p:=⟨_,fD (by omega)⟩
   obtain⟨e,he⟩:∃e,ms[i]?=some e:=⟨_,fD (by omega)⟩
   refine Ai I (Ae (Ks (Al (Cs I (Lm I (Lc I (Lfa Me I Se I (Lo isAgg194 0 I (Lm I (Lq I (As i I Sg sizeOf320 I (Hrd 1 I) I I (by omega)) (Lfa underlying320 I Z3 I (Lq I (AI i 0 I G3 I I (Hrd 1 I) hp I) (Lm I (Lq I (Qe I) (Lm I ?_)))))))))))))))
   refine CB 27 I (fun h1=>?_) (fun h1=>?_)
   · refine Lm I (Lc I (Lfa Me I Se I (Lo isAgg194 0 I (Lm I (Lq I (As i I Sg sizeOf320 I (Hrd 1 I) I I (by omega)) (Lfa underlying320 I Z49 I (Lq I (AI i 1 I G49 I I (Hrd 1 I) hp I) (Lm I (l_e I (E1 (Qh e m (hl1 e (hY he))) I call23 (fun _ h=>⟨RIn.rd (hms i p e hp he) h (by simp_all),RIn.rd hm h (by simp_all)⟩) (fun _ _=>Lq I (Qy I) (Nk ?_))))))))))))
     refine CB 38 I (fun h2=>?_) (fun h2=>?_)
     · refine Ai I (Cs I (Ak I (Af (Am (Aa (Aa (Am (Aa (An I I ?_)))))))))
       exact fun _ h=>⟨vm,congrArg (fun z=>Ending.returned (Value.bool z)) (LU hp (by first|assumption|omega|simp_all) (by rw[he];first|rfl|(congr 1;done)|simp_all)).symm,trivial,by rw[fO (LU hp (by first|assumption|omega|simp_all) (by rw[he];first|rfl|(congr 1;done)|simp_all))];exact h⟩
     · refine Ab I (Ae (Aw (Kt (Cr I (Lm I (Lq I (Qi I (by omega)) (Las I (AB ?_))))))))
       exact AD (i+1) (by omega) ⟨by omega,fun j p2 e2 hj hx hb=>by
        rcases ke.1 hj with h3|rfl
        · exact hno j p2 e2 h3 hx hb
        · rw[hp] at hx;rw[he] at hb;cases hx;cases hb;first|(left;assumption)|(right;assumption)|(left;omega)|(right;simp_all)⟩ (Si I) (fun _ h=>h)
   · refine Lx I (Lx I (Lx I (Lx I (Lx I (Lx I (Lx I (Lx I (Lx I (Lx I (Lq I (Qz I) (Nk (Ab I (Ae (Aw (Kt (Cr I (Lm I (Lq I (Qi I (by omega)) (Las I (AB ?_))))))))))))))))))))
     exact AD (i+1) (by omega) ⟨by omega,fun j p2 e2 hj hx hb=>by
      rcases ke.1 hj with h3|rfl
      · exact hno j p2 e2 h3 hx hb
      · rw[hp] at hx;rw[he] at hb;cases hx;cases hb;first|(left;assumption)|(right;assumption)|(left;omega)|(right;simp_all)⟩ (Si I) (fun _ h=>h)
 · have hno2:GN met ms set m=false:=W0 hl (fun j p e hj=>hno j p e (by omega))
   refine Ab I (AO (Ac (Ac (Ar (Kt (Cs I (Lm I (Lm I (Lc I (Lfa Me I Se I (Lo isAgg194 0 I (Lm I (Lm I (Lq I (AN (Em.f (set,mv)) I I (fun w=>by kernel_rfl)) (l_e I (Ax (sz:=2) [.tmp 46] I I I I I Sg sizeOf320 I zeroValue320 (by simp[Value.cells,Em]) (fun b3=>AV (l_e I (Ap2 Sg Sg Xy I (fun _ h=>AW (h.at 1 I) Em [(set,mv)] I I) (by simp only[fL,fv,jn];omega) (fun v2=>AM (Av (Lc I (Lfa Me I Se I (Pre.fact (fun _ h=>B0 (h.at 0 I)) ?_))))))))))))))))))))))))
   rintro⟨av,cv,hv2⟩
   refine AM (l_e I (AF I I Se I I (by rw[hv2];rfl) (iy I) (Ce [vl,v2,.int .i64 0] I (Nk (Cs I (Ak I (Af (An I I ?_))))))))
   exact fun _ h=>⟨v2,congrArg (fun z=>Ending.returned (Value.bool z)) hno2.symm,trivial,by rw[fR (by rw[hno2];decide)];exact h⟩
section
variable {P:Program} {n:Nat} {L:Env} {X:World->Prop} {o:Oper}
theorem dV {a b:Nat} (ho:o.op=.binOp .or t x y u) (hx:ev L x=some (.int .i64 (a:Int))) (hy:ev L y=some (.int .i64 (b:Int))) (ha:a<2^62) (hb:b<2^62):QOp P n L X o (.int .i64 ((a ||| b:Nat):Int)) :=
 CW ho hx hy (fun w _=>by
  have h1:(BitVec.ofInt 64 (a:Int)).toNat=a:=by rw[BitVec.ofInt_natCast,BitVec.toNat_ofNat];omega
  have h2:(BitVec.ofInt 64 (b:Int)).toNat=b:=by rw[BitVec.ofInt_natCast,BitVec.toNat_ofNat];omega
  have h3:(BitVec.ofInt 64 (a:Int) ||| BitVec.ofInt 64 (b:Int)).toNat=a ||| b:=by rw[BitVec.toNat_or,h1,h2]
  have h4:a ||| b<2^62:=Nat.or_lt_two_pow ha hb
  have h5:IntKind.i64.wrap ((BitVec.ofInt 64 (a:Int) ||| BitVec.ofInt 64 (b:Int)).toNat:Int)=((a ||| b:Nat):Int):=by rw[h3];exact Cj (by omega)
  rw[gx,Ch]
  show (Go.Op.intBits .or .i64 (a:Int) (b:Int)).run P w=_
  unfold Go.Op.intBits
  show (pure (Value.int .i64 (IntKind.i64.wrap ((BitVec.ofInt 64 (a:Int) ||| BitVec.ofInt 64 (b:Int)).toNat:Int))):Sem Value).run P w=_
  rw[h5];rfl)
theorem cm {k:IntKind} {i:Nat} (ho:o.op=.binOp .shl t x y u) (hx:ev L x=some (.int .i64 1)) (hy:ev L y=some (.int k (i:Int))) (hi:i<=60):QOp P n L X o (.int .i64 ((2^i:Nat):Int)) :=
 CW ho hx hy (fun w _=>by
  have h5:IntKind.i64.wrap (1*2^(min ((i:Int).toNat) 64))=((2^i:Nat):Int):=by
   rw[ie,gV (by omega),Int.one_mul]
   have h6:(2:Nat)^i<=2^60:=fz (by decide) hi
   obtain⟨q,hq⟩:∃q:Nat,q=2^i:=⟨_,rfl⟩
   have h7:(2:Int)^i=(q:Int):=by rw[hq];push_cast;rfl
   rw[<-hq] at h6 ⊢
   rw[h7];exact Cj (by omega)
  rw[gx,Ch]
  show (Go.Op.shift .shl .i64 1 k (i:Int)).run P w=_
  unfold Go.Op.shift
  rw[fR (show ¬(i:Int)<0 by omega)]
  show (pure (Value.int .i64 (IntKind.i64.wrap (1*2^(min ((i:Int).toNat) 64)))):Sem Value).run P w=_
  rw[h5];rfl)
end
def bits:List Bool->Nat
 |[]=>0
 |b::l=>(if b=true then 1 else 0)+2*bits l
theorem KD:∀{a b:List Bool},a.length=b.length->bits a=bits b->a=b
 |[],[],_,_=>rfl
 |[],_::_,h,_=>by simp at h
 |_::_,[],h,_=>by simp at h
 |x::a,y::b,h,e=>by
  unfold bits at e
  have h1:x=y:=by
   cases x<;>cases y<;>first|rfl|(simp at e;omega)
  subst h1
  rw[KD (a:=a) (b:=b) (by simpa using h) (by omega)]
theorem RU:∀(a:List Bool),bits a<2^a.length
 |[]=>by decide
 |x::a=>by
  have:=RU a
  unfold bits
  rw[fv,Nat.pow_succ]
  split<;>omega
theorem MX:∀(a:List Bool) (j:Nat),(bits a).testBit j=a.getD j false
 |[],j=>by simp[bits]
 |x::a,0=>by
  unfold bits
  cases x<;>simp[Nat.testBit_zero]
 |x::a,j+1=>by
  unfold bits
  rw[Nat.testBit_succ]
  have:((if x=true then 1 else 0)+2*bits a)/2=bits a:=by split<;>omega
  rw[this,MX a j];simp
theorem YV {a:List Bool} (h:i<a.length):bits a ||| 2^i=bits (a.set i true):=by
 apply Nat.eq_of_testBit_eq
 intro j
 rw[Nat.testBit_or,Nat.testBit_two_pow,MX,MX,ju,ju,jD]
 by_cases e:i=j
 · subst e;simp[h]
 · simp[e]
end Go.Proofs.YtloldofjddbjoaaGreat
namespace Go.Proofs.YtloldofjddbjoaaGreat
open Go.Sep Go.RowKit Tryz
variable {t sq:Int} {l:List Ca} {n k nb i nx B:Nat} {x:HM} {c:Cl} {ord D p:List Nat} {d:List Bool} {s:List (Nat×Bool)} {ls:List (List Opn)} {met:List (Int×Sv)} {ms:List (List En)} {α:Type} {w w0:World} {vl va:Value} {o:Opn} {v:Sv} {b:OpsR} {z:HC}
inductive Comp (l:List Ca):List Bool->List En->Prop
 |over {d:List Bool} {m:List En} (h:FM l d=true):Comp l d m
 |step {d:List Bool} {m:List En} (i:Nat) (hi:i<l.length) (hf:Fq l d i=true) (hs:(BA m (l.getD i ca0)).2=true) (h:Comp l (d.set i true) (BA m (l.getD i ca0)).1):Comp l d m
theorem Comp.no {m:List En} (ho:FM l d=false) (h:∀i,i<l.length->Fq l d i=true->(BA m (l.getD i ca0)).2=true->¬Comp l (d.set i true) (BA m (l.getD i ca0)).1):¬Comp l d m:=fun c=>by
 cases c with
 |over h1=>rw[ho] at h1;cases h1
 |step i hi hf hs h1=>exact h i hi hf hs h1
def dW (l:List Ca) (p:Int×Sv) (e:List En):Prop:=∀d:List Bool,d.length=l.length->((bits d:Nat):Int)=p.1->¬Comp l d e
def MetOk (l:List Ca) (met:List (Int×Sv)) (ms:List (List En)) (n:Nat):Prop:=∀(i:Nat) (p:Int×Sv) (e:List En),met[i]?=some p->ms[i]?=some e->dW l p e\/∃d:List Bool,d.length=l.length/\((bits d:Nat):Int)=p.1/\d.count true<n
def Ext (l:List Ca) (met:List (Int×Sv)) (ms:List (List En)) (met':List (Int×Sv)) (ms':List (List En)):Prop:=∀(i:Nat) (p:Int×Sv) (e:List En),met'[i]?=some p->ms'[i]?=some e->(∃j:Nat,met[j]?=some p/\ms[j]?=some e)\/dW l p e
theorem Ext.refl (l:List Ca) (met:List (Int×Sv)) (ms:List (List En)):Ext l met ms met ms:=fun i _ _ h1 h2=>.inl ⟨i,h1,h2⟩
theorem Ext.trans {a b c:List (Int×Sv)} {x y z:List (List En)} (h:Ext l a x b y) (k:Ext l b y c z):Ext l a x c z:=fun i p e h1 h2=>by
 rcases k i p e h1 h2 with⟨j,h3,h4⟩|h3
 · exact h j p e h3 h4
 · exact .inr h3
theorem MetOk.ext {met':List (Int×Sv)} {ms':List (List En)} (h:MetOk l met ms n) (k:Ext l met ms met' ms'):MetOk l met' ms' n:=fun i p e h1 h2=>by
 rcases k i p e h1 h2 with⟨j,h3,h4⟩|h3
 · exact h j p e h3 h4
 · exact .inl h3
theorem MetOk.mono (h:MetOk l met ms n) (hk:n<=k):MetOk l met ms k:=fun i p e h1 h2=>(h i p e h1 h2).imp id (fun⟨d,a,b,c⟩=>⟨d,a,b,by omega⟩)
theorem Fa {l:List α} {x y:α} (h:(l++[x])[i]?=some y):l[i]?=some y\/(i=l.length/\y=x):=by
 rw[List.getElem?_append] at h
 split at h
 · exact .inl h
 · rename_i hn
   by_cases e:i-l.length=0
   · rw[e] at h;simp at h;exact .inr ⟨by omega,h.symm⟩
   · rw[fI (by simp;omega)] at h;cases h
theorem MetOk.own {m:List En} (h:MetOk l met ms (d.count true)) (hd:d.length=l.length) (hl:ms.length=met.length):MetOk l (met++[(((bits d:Nat):Int),v)]) (ms++[m]) (d.count true+1):=fun i p e h1 h2=>by
 rcases Fa h1 with h3|⟨h3,rfl⟩
 · rcases Fa h2 with h4|⟨h4,_⟩
   · exact (h.mono (jT _)) i p e h3 h4
   · have:=(gl.1 h3).1;omega
 · exact .inr ⟨d,hd,rfl,Nat.lt_succ_self _⟩
theorem Ext.own {m:List En} (hd:d.length=l.length) (hl:ms.length=met.length) (hn:¬Comp l d m):Ext l met ms (met++[(((bits d:Nat):Int),v)]) (ms++[m]):=fun i p e h1 h2=>by
 rcases Fa h1 with h3|⟨h3,rfl⟩
 · rcases Fa h2 with h4|⟨h4,_⟩
   · exact .inl ⟨i,h3,h4⟩
   · have:=(gl.1 h3).1;omega
 · rcases Fa h2 with h4|⟨_,rfl⟩
   · have:=(gl.1 h4).1;omega
   · refine .inr (fun d' h5 h6=>?_)
     have:d'=d:=KD (by rw[h5,hd]) (Int.ofNat.inj h6)
     rw[this];exact hn
theorem MetOk.seen {m:List En} (h:MetOk l met ms (d.count true)) (hd:d.length=l.length) (hl:ms.length=met.length) (hs:GN met ms ((bits d:Nat):Int) m=true):¬Comp l d m:=by
 unfold GN at hs
 obtain⟨i,hi,h1⟩:=iB.1 hs
 have hi:=gk.1 hi
 obtain⟨p,hp⟩:∃p,met[i]?=some p:=⟨_,fD hi⟩
 obtain⟨e,he⟩:∃e,ms[i]?=some e:=⟨_,fD (by omega)⟩
 rw[ju,ju,hp,he] at h1
 simp only[gq,gQ,ia] at h1
 obtain⟨h2,rfl⟩:=h1
 rcases h i p e hp he with h3|⟨d',h4,h5,h6⟩
 · exact h3 d hd h2.symm
 · have:d'=d:=KD (by rw[h4,hd]) (by rw[h2] at h5;exact Int.ofNat.inj h5)
   rw[this] at h6;omega
theorem YW (hd:d.length=l.length) (hi:i<l.length) (h:Fq l d i=true):d[i]?=some false:=by
 cases hx:d[i]? with
 |none=>have:=List.getElem?_eq_none_iff.1 hx;omega
 |some b=>cases b with
  |true=>rw[LR hx] at h;cases h
  |false=>rfl
theorem IG:∀{d:List Bool} {i:Nat},d[i]?=some false->(d.set i true).count true=d.count true+1
 |[],i,h=>by simp at h
 |x::d,0,h=>by simp at h;subst h;simp
 |x::d,i+1,h=>by
  have:=IG (d:=d) (i:=i) (by simpa using h)
  simp only[iY,List.count_cons,this];omega
structure MapOk (m:List En) (n:Nat):Prop where
 rise:B8 m
 key:∀e∈m,kck e.key=true
 len:m.length<=n
theorem MapOk.nil:MapOk [] 0:=⟨List.Pairwise.nil,fun e h=>(by cases h),ga 0⟩
theorem MapOk.mono {m:List En} (h:MapOk m n) (hk:n<=k):MapOk m k:=⟨h.rise,h.key,gF h.len hk⟩
theorem MapOk.put {m:List En} (h:MapOk m n) (o:Opn):MapOk (Bu m (mOf o)) (n+1):=by
 refine⟨Gw h.rise h.key (E9 o),fun e he=>?_,?_⟩
 · rcases OR he with h1|h1
   · exact h.key e h1
   · exact (RN h1).1
 · have:=Lo.lput_len m (mOf o)
   have:=h.len
   omega
theorem O0 (m:List En) (c:Ca):(BA m c).1=m\/((BA m c).1=Bu m (mOf c.op)/\fB c=false/\BX c.op=false/\c.op.kind≠4):=by
 unfold BA
 by_cases hF:fB c=true
 · rw[fO hF];exact .inl rfl
 · rw[fR hF]
   unfold rDo
   by_cases hT:BX c.op=true
   · rw[fO hT];exact .inl rfl
   · rw[fR hT]
     by_cases h4:c.op.kind=4
     · rw[fO h4];exact .inl rfl
     · rw[fR h4];exact .inr ⟨rfl,iv.2 hF,iv.2 hT,h4⟩
theorem MapOk.step {m:List En} (h:MapOk m n) (c:Ca):MapOk (BA m c).1 (n+1):=by
 rcases O0 m c with e|⟨e,_⟩
 · rw[e];exact h.mono (jT n)
 · rw[e];exact h.put c.op
structure O1 (c:Ca):Prop where
 code:(Lit.int .i64 c.a.code).wf=true
 kind:c.op.kind=1\/c.op.kind=2\/c.op.kind=3\/c.op.kind=4
def Bn (n:Nat):Nat->Nat
 |0=>1
 |k+1=>1+n*Bn n k
theorem cn {v:Value} {l:List En} (h:(Az v 79 En.enc l).at w):∃s:Sv,v=s.v:=by
 obtain⟨a,c,e⟩:=B0 h
 exact⟨⟨a,l.length,c⟩,e⟩
theorem TK {mv:Sv} (l:List En) (c:Ca) (hm:MapOk l 1000) (hc:O1 c):Con prog 22 [mv.v,.agg c.c.toArray] (fun w=>RdV w mv.v En.enc l) [] (fun r:Sv×List Ent=>.tuple #[r.1.v,.bool (BA l c).2]) (fun r=>(r=(mv,[])/\(BA l c).1=l)\/r.2=[Az r.1.v 79 En.enc (BA l c).1]) (fun r=>r.2):=fun w he hh=>by
 have put:∀{e:Ending} {w':World} {v:Value},e=.returned (.tuple #[v,.bool (BA l c).2])->St w (dom []) [Az v 79 En.enc (BA l c).1] w'->∃r:Sv×List Ent,e=.returned (.tuple #[r.1.v,.bool (BA l c).2])/\((r=(mv,[])/\(BA l c).1=l)\/r.2=[Az r.1.v 79 En.enc (BA l c).1])/\St w (dom []) r.2 w':=fun h1 h3=>by
  obtain⟨s,rfl⟩:=cn (h3.at 0 rfl)
  exact⟨(s,[Az s.v 79 En.enc (BA l c).1]),h1,.inr rfl,h3⟩
 by_cases hF:fB c=true
 · exact (Qs l c hm.rise hm.len hF w he hh).mono (fun e w' ⟨_,h1,_,h3⟩=>⟨(mv,[]),h1,.inl ⟨rfl,by rw[WZ hF]⟩,h3⟩)
 have hF:=iv.2 hF
 by_cases hT:BX c.op=true
 · exact (TI l c hm.rise hm.len hc.code hF hT w he hh).mono (fun e w' ⟨_,h1,_,h3⟩=>⟨(mv,[]),h1,.inl ⟨rfl,by rw[Fs hF (Qr hT)]⟩,h3⟩)
 have hT:=iv.2 hT
 rcases hc.kind with hk|hk|hk|hk
 · exact (Qu l c hm.rise hm.len hc.code hm.key hF hT hk w he hh).mono (fun e w' ⟨v,h1,_,h3⟩=>put h1 h3)
 · exact (Qv l c hm.rise hm.len hc.code hm.key hF hT hk w he hh).mono (fun e w' ⟨v,h1,_,h3⟩=>put h1 h3)
 · exact (Qw l c hm.rise hm.len hc.code hm.key hF hT hk w he hh).mono (fun e w' ⟨v,h1,_,h3⟩=>put h1 h3)
 · exact (TJ l c hm.rise hm.len hc.code hF hT hk w he hh).mono (fun e w' ⟨_,h1,_,h3⟩=>⟨(mv,[]),h1,.inl ⟨rfl,by rw[Fs hF (MW hT hk)]⟩,h3⟩)
def Fn:Nat->Nat
 |0=>1
 |k+1=>1+(k+1)*Fn k
theorem RV (h:1<=k):Fn k=1+k*Fn (k-1):=by
 cases k with
 |zero=>omega
 |succ k=>rfl
theorem dX (h:k<=12):Fn k<=1302061345:=by
 have:∀j,j<=12->Fn j<=1302061345:=by decide
 exact this k h
theorem O2:∀{d:List Bool} {i:Nat},d[i]?=some false->(d.set i true).count false+1=d.count false
 |[],i,h=>by simp at h
 |x::d,0,h=>by simp at h;subst h;simp
 |x::d,i+1,h=>by
  have:=O2 (d:=d) (i:=i) (by simpa using h)
  simp only[iY,List.count_cons];omega
theorem KE {b:Bool} (h:d[i]?=some b):(d.take (i+1)).count false=(d.take i).count false+(if b=false then 1 else 0):=by
 rw[jd,h,List.count_append]
 cases b<;>rfl
theorem O3 (d:List Bool) (i:Nat):(d.take i).count false<=d.count false:=(kr i d).count_le false
theorem YX (hd:d.length=l.length) (h:FM l d=false):1<=d.count false:=by
 refine kD (fun h0=>?_)
 have h1:d.count false=0:=by omega
 have h2:∀b∈d,b=true:=fun b hb=>by
  cases b with
  |true=>rfl
  |false=>exact absurd hb (List.count_eq_zero.1 h1)
 have:FM l d=true:=by
  unfold FM
  rw[iD]
  intro i hi
  have hi:=gk.1 hi
  have e:d[i]?=some (d[i]'(by omega)):=fD (by omega)
  rw[ju (l:=d),e,gq,h2 _ (fH _),kC]
 rw[this] at h;cases h
inductive LV (l:List Ca):List Bool->List En->List Nat->Prop
 |over {d:List Bool} {m:List En} (h:FM l d=true):LV l d m []
 |step {d:List Bool} {m:List En} {ks:List Nat} (i:Nat) (hi:i<l.length) (hf:Fq l d i=true) (hs:(BA m (l.getD i ca0)).2=true) (h:LV l (d.set i true) (BA m (l.getD i ca0)).1 ks):LV l d m (i::ks)
structure FR where
 vo:Value
 ok:Bool
 vm:Value
 met:List (Int×Sv)
 ms:List (List En)
 X:List Ent
 ord:List Nat
structure eV (l:List Ca) (d:List Bool) (m:List En) (met:List (Int×Sv)) (ms:List (List En)) (G:List Ent) (r:FR):Prop where
 len:r.ms.length=r.met.length
 rin:∀(i:Nat) (p:Int×Sv) (e:List En),r.met[i]?=some p->r.ms[i]?=some e->RIn (r.X++G) p.2.v e
 le:∀e∈r.ms,e.length<=1000
 many:r.met.length<=met.length+Fn (d.count false)
 ord:r.ord.length<=d.count false
 yes:r.ok=true->LV l d m r.ord
 no:r.ok=false->¬Comp l d m/\Ext l met ms r.met r.ms
structure cq (l:List Ca) (d:List Bool) (m:List En) (mv:Sv) (vl vd:Value) (met:List (Int×Sv)) (ms:List (List En)) (G:List Ent):Prop where
 n12:l.length<=12
 ca:∀c∈l,O1 c
 dl:d.length=l.length
 rl:Az vl 60 Ca.enc l∈G
 rd:Az vd 4 Fb d∈G
 rm:RIn G mv.v m
 mo:MapOk m (d.count true)
 ml:ms.length=met.length
 rin:∀(i:Nat) (p:Int×Sv) (e:List En),met[i]?=some p->ms[i]?=some e->RIn G p.2.v e
 le:∀e∈ms,e.length<=1000
 ok:MetOk l met ms (d.count true)
 bd:met.length+Fn (d.count false)<=4000000000000
abbrev FRH (bs:Nat) (vl:Value) (G:List Ent) (r:FR):List Ent:=SRE bs vl r.vm::Az r.vm 320 Em r.met::Az r.vo 3 (AG .i64) (nI2 r.ord)::(r.X++G)
theorem Gi {H G:List Ent} {v:Value} {t:TypeId} {E:Enc α} {l:List α} (h:St w0 D H w) (hm:Az v t E l∈G) (hs:∀e∈G,e∈H):RdV w v E l:=BO (h.hp.holds _ (hs _ hm))
theorem QB {bs:Nat}:∀(k:Nat) (d:List Bool) (m:List En) (mv:Sv) (vd vm:Value) (met:List (Int×Sv)) (ms:List (List En)) (G:List Ent),d.count false=k->cq l d m mv vl vd met ms G->Con prog 96 [ptV bs,vd,.int .i64 ((bits d:Nat):Int),mv.v] (fun _=>True) (SRE bs vl vm::Az vm 320 Em met::G) (fun r:FR=>.tuple #[r.vo,.bool r.ok]) (eV l d m met ms G) (FRH bs vl G):=by
 intro k;refine Nat.strongRecOn k ?_;intro k ih d m mv vd vm met ms G hkk hI
 have hdl2:d.length<=12:=by rw[hI.dl];exact hI.n12
 have hn12:=hI.n12
 have hbit:bits d<4096:=iN (RU d) (fz (by decide) hdl2:2^d.length<=2^12)
 have hdl:=hI.dl
 intro w hE hH
 refine Ey func96 I hH ?_
 refine Cs I (Las I (Ak I (Ag (Cs I (Lm I (Lc I (Lfa Me I sizeOf36 I (Lo isAgg36 0 I (Lm I (l_e I (E1 (Qp l d (by have:=hI.n12;omega) hI.dl) I call152 (fun _ h=>⟨Gi h hI.rl (by simp_all),Gi h hI.rd (by simp_all)⟩) (fun _ _=>Nk ?_))))))))))))
 refine Pre.caseB 21 I (fun hov=>?_) (fun hov=>?_)
 · refine Ai I (Cs I (Las I (Ak I (Af (Aa (row0 3 (AG .i64) none (Pm [1,1] I (Be (rs:=[.tmp 8,.tmp 9]) I I ?_))))))))
   exact fun _ h=>⟨(⟨Cg,true,vm,met,ms,[],[]⟩:FR),rfl,⟨hI.ml,hI.rin,hI.le,kJ _ _,gb _,fun _=>.over hov,fun h=>by cases h⟩,h⟩
 · have hk1:=YX hI.dl hov
   refine Ab I (Ae (Ks (Cs I (Lm I (Lm I (Lm I (l_e I (Ee [] (QA (bs:=bs) (vl:=vl) (vm:=vm) (set:=((bits d:Nat):Int)) (by have:=hI.bd;omega) hI.ml hI.rin hI.le hI.rm) I call153 Tt ?_))))))))
   intro v1 _
   cases hs:GN met ms ((bits d:Nat):Int) m
   · rw[fR kA]
     refine Pw (St _ _ (SRE bs vl v1::Az v1 320 Em (met++[(((bits d:Nat):Int),mv)])::G)) ?_
     refine Nk (Ab I (Ae (Ks (Cs I (Ak I (Al ?_))))))
     have hown:=hI.ok.own (m:=m) (v:=mv) hI.dl hI.ml
     refine L7 (fun (i:Nat) (v2:Value) (met2:List (Int×Sv)) (ms2:List (List En)) (X:List Ent)=>[(0,ptV bs),(1,vd),(2,.int .i64 ((bits d:Nat):Int)),(3,mv.v),(10,.int .i64 (i:Int))]) (fun (i:Nat) (v2:Value) (met2:List (Int×Sv)) (ms2:List (List En)) (X:List Ent)=>St w (dom (SRE bs vl vm::Az vm 320 Em met::G)) (SRE bs vl v2::Az v2 320 Em met2::(X++G))) (fun (i:Nat) (v2:Value) (met2:List (Int×Sv)) (ms2:List (List En)) (X:List Ent)=>i<=l.length/\ms2.length=met2.length/\(∀(i:Nat) (p:Int×Sv) (e:List En),met2[i]?=some p->ms2[i]?=some e->RIn (X++G) p.2.v e)/\(∀e∈ms2,e.length<=1000)/\met2.length<=met.length+1+(d.take i).count false*Fn (d.count false-1)/\Ext l (met++[(((bits d:Nat):Int),mv)]) (ms++[m]) met2 ms2/\∀j,j<i->Fq l d j=true->(BA m (l.getD j ca0)).2=true->¬Comp l (d.set j true) (BA m (l.getD j ca0)).1) (fun (i:Nat) (v2:Value) (met2:List (Int×Sv)) (ms2:List (List En)) (X:List Ent)=>l.length-i) (0) (v1) ((met++[(((bits d:Nat):Int),mv)])) ((ms++[m])) ([]) ⟨gb _,by rw[fL,fL,hI.ml];rfl,fun a b e h1 h2=>by
      rcases Fa h1 with h3|⟨h3,rfl⟩
      · rcases Fa h2 with h4|⟨h4,_⟩
        · exact hI.rin a b e h3 h4
        · have:=(gl.1 h3).1;have:=hI.ml;omega
      · rcases Fa h2 with h4|⟨_,rfl⟩
        · have:=(gl.1 h4).1;have:=hI.ml;omega
        · exact hI.rm,fun e he=>by
      rcases ib.1 he with h1|h1
      · exact hI.le e h1
      · simp only[iE] at h1;subst h1;have:=hI.mo.len;have:=kK (a:=true) (l:=d);omega,by simp,Ext.refl _ _ _,fun j hj=>absurd hj (jy _)⟩ (Si I) (fun _ h=>h) ?_
     intro i v2 met2 ms2 X hp
     refine Ag (Ag ?_)
     obtain⟨hi,hml2,hrin2,hle2,hmany,hext,hno⟩:=hp
     refine Cr I (Lm I (Lm I (Lc I (Lfa Me I sizeOf36 I (Lo isAgg36 0 I (Lq I (AL I U36 I (fun _ h=>Gi h hI.rl (by simp_all))) (Lq I (Ql I) (Nk ?_))))))))
     refine CB 32 I (fun h1=>?_) (fun h1=>?_)
     · obtain⟨c,hx⟩:∃c,l[i]?=some c:=⟨_,fD (by omega)⟩
       obtain⟨db,hdb⟩:∃b,d[i]?=some b:=⟨_,fD (by rw[hI.dl];omega)⟩
       have hcd:l.getD i ca0=c:=by rw[ju,hx];rfl
       refine Ai I (Ae (Ks (Al (Ag (Cs I (Lm I (Lc I (Lfa Me I sizeOf36 I (Lo isAgg36 0 I (Lm I (Lm I (l_e I (E1 (Qq l d i (by omega) (by have:=hI.n12;omega) hI.dl) I call154 (fun _ h=>⟨Gi h hI.rl (by simp_all),Gi h hI.rd (by simp_all)⟩) (fun _ _=>Lq I (Qt I) (Nk ?_)))))))))))))))
       refine CB 42 I (fun hfr=>?_) (fun hfr=>?_)
       · refine Ai I (AO (Ac (Ar (Kt (Cr I (Lm I (Lq I (Qi I (by omega)) (Las I (AB ?_)))))))))
         exact AD ((i+1,v2,met2,ms2,X)) (by dsimp only;omega) ⟨by dsimp only;omega,hml2,hrin2,hle2,(by dsimp only;refine gF hmany (Nat.add_le_add_left (gr _ ?_) _);rw[KE hdb];exact kJ _ _),hext,fun j hj hf hs=>by
          rcases ke.1 hj with h3|rfl
          · exact hno j h3 hf hs
          · rw[hfr] at hf;cases hf⟩ (Si I) (fun _ h=>h)
       · refine Ab I (Ae (Kt (Cs I (Lm I (Lm I (Lc I (Lfa Me I sizeOf36 I (Lo isAgg36 0 I (Lm I (Lq I (As i I U36 Z60 I (fun _ h=>Gi h hI.rl (by simp_all)) I I (by omega)) (Lq I (AU i I G60 Z60 I I (fun _ h=>Gi h hI.rl (by simp_all)) hx) (l_e I ?_))))))))))))
         have hrm2:RIn (X++G) mv.v m:=hI.rm.more (fun e he=>iU _ he)
         refine BV (TK m c (hI.mo.mono (by have:=hI.n12;have:=kK (a:=true) (l:=d);have:=hI.dl;omega)) (hI.ca c (hY hx))) I I I call22 I (fun _ h=>hrm2.rd h (by simp_all)) ?_
         rintro r hr
         refine Pre.world (St _ _ (SRE bs vl v2::Az v2 320 Em met2::((r.2++X)++G))) (fun _ h=>h.perm (jm.trans ((jm.trans (by rw[gK])).cons _))) ?_
         refine Lm I (Lq I (Qx I) (Lq I (Qx I) (Las I (Ak I (Ag (Cs I (Lm I (Lq I (Qt I) (Nk ?_)))))))))
         have hrin3:∀(i:Nat) (p:Int×Sv) (e:List En),met2[i]?=some p->ms2[i]?=some e->RIn ((r.2++X)++G) p.2.v e:=fun a b e h1 h2=>(hrin2 a b e h1 h2).more (fun z hz=>by rw[gK];exact iU _ hz)
         refine CB 56 I (fun hsk=>?_) (fun hsk=>?_)
         · refine Ai I (AO (Ac (Ar (Kt (Cr I (Lm I (Lq I (Qi I (by omega)) (Las I (AB ?_)))))))))
           exact AD ((i+1,v2,met2,ms2,(r.2++X))) (by dsimp only;omega) ⟨by dsimp only;omega,hml2,hrin3,hle2,(by dsimp only;refine gF hmany (Nat.add_le_add_left (gr _ ?_) _);rw[KE hdb];exact kJ _ _),hext,fun j hj hf hs=>by
            rcases ke.1 hj with h3|rfl
            · exact hno j h3 hf hs
            · rw[hcd,hsk] at hs;cases hs⟩ (Si I) (fun _ h=>h)
         · refine Ab I (Ae (Kt (Cs I ?_)))
           have hpi:2^i<=4096:=(fz (by decide) (by omega:i<=12):2^i<=2^12)
           have hdi:=YW hI.dl (by omega) hfr
           refine l_e I (Ax (sz:=1) [] I I I I I FO Z4 I zeroValue4 I (fun b=>rowLit Fb [] I I (Lm I (l_e I (Ap FO FO QT I (fun _ h=>Gi h hI.rd (by simp_all)) (by simp only[fL,fv,jn];omega) (fun vc=>Ak I (Ag ?_)))))))
           rw[gO]
           refine Cr I (Lm I (Lm I (Lq I (As i I FO Z4 I (Hrd 0 I) I I (by omega)) (l_e I (CE i 0 (true) I I Z4 I I I hdi (by decide) I (Nk (Cs I (Lm I (Lm I (Lm I (Lm I (Lq I (Bq I U3 Ub I (EL (by omega))) (Lq I (cm I I I (by omega)) (Lq I (dV I I I (by omega) (by omega)) (Lm I (Sv' 70 (.int .i64 ((bits (d.set i true):Nat):Int)) I (by rw[YV (by omega)]) (Pm [1,1] I ?_)))))))))))))))))
           have hni:RIn ((r.2++X)++G) r.1.v (BA m c).1:=by
            rcases hr with⟨rfl,e⟩|e
            · rw[e];exact hrm2.more (fun z hz=>hz)
            · exact .inr (by rw[e];simp)
           have hcs:=O2 hdi
           have hct:(d.take (i+1)).count false=(d.take i).count false+1:=by rw[KE hdi];rfl
           have hcl:=O3 d (i+1)
           have hF:Fn (d.count false)=1+d.count false*Fn (d.count false-1):=RV hk1
           have hcs2:((d.set i true)).count false=d.count false-1:=by omega
           have hmul:((d.take i).count false+1)*Fn (d.count false-1)<=d.count false*Fn (d.count false-1):=gr _ (by omega)
           have hmul2:((d.take i).count false+1)*Fn (d.count false-1)=(d.take i).count false*Fn (d.count false-1)+Fn (d.count false-1):=Nat.succ_mul _ _
           have hbd2:met2.length+Fn (((d.set i true)).count false)<=4000000000000:=by have:=hI.bd;rw[hcs2];omega
           have hI2:cq l (d.set i true) (BA m c).1 r.1 vl vc met2 ms2 (Az vc 4 Fb (d.set i true)::((r.2++X)++G)):=⟨hI.n12,hI.ca,by rw[je];exact hI.dl,iR _ (iU _ hI.rl),iG ..,hni.more (fun z hz=>iR _ hz),by rw[IG hdi];exact hI.mo.step c,hml2,fun a b e h1 h2=>(hrin3 a b e h1 h2).more (fun z hz=>iR _ hz),hle2,by rw[IG hdi];exact hown.ext hext,hbd2⟩
           refine l_e I (Ee [] (ih (d.count false-1) (by omega) (d.set i true) (BA m c).1 r.1 vc v2 met2 ms2 (Az vc 4 Fb (d.set i true)::((r.2++X)++G)) hcs2 hI2) I call96 Tt (fun q hq=>Pw (St _ _ (SRE bs vl q.vm::Az q.vm 320 Em q.met::Az q.vo 3 (AG .i64) (nI2 q.ord)::(q.X++(Az vc 4 Fb (d.set i true)::((r.2++X)++G))))) ?_))
           refine Lm I (Lq I (Qx I) (Lq I (Qx I) (Las I (Ak I (Cs I (Lm I (Nk ?_)))))))
           have hol:(nI2 q.ord).length<=12:=by unfold nI2;rw[gS];have:=hq.ord;have:=kK (a:=false) (l:=d);omega
           have hmny:q.met.length<=met.length+1+((d.take (i+1)).count false)*Fn (d.count false-1):=by have h1:=hq.many;rw[hcs2] at h1;rw[hct,hmul2];omega
           refine Pre.caseB 75 I (fun hok=>?_) (fun hok=>?_)
           · refine Ai I (Cs I (Lm I (l_e I (Ax (sz:=1) [.tmp 76] I I I I I U22 Z3 I zeroValue3 I (fun b2=>rowLit (AG .i64) [((i:Nat):Int)] I I (Lm I (l_e I (Ap U22 U22 Ez I (Hrd 3 I) (by simp only[fL,fv,jn];omega) (fun v3=>Las I (Ak I (Af (Am (Aa (Aa (Am (Aa (DS (Av (Pm [1,1] I (Be (rs:=[.tmp 8,.tmp 9]) I I ?_))))))))))))))))))))
             exact fun _ h=>⟨(⟨v3,true,q.vm,q.met,q.ms,q.X++Az vc 4 Fb (d.set i true)::(r.2++X),i::q.ord⟩:FR),rfl,⟨hq.len,fun a b e h1 h2=>by rw[gK];exact hq.rin a b e h1 h2,hq.le,by have h3:=hmny;have:=hmul;rw[hct] at h3;show q.met.length<=_;omega,by show (i::q.ord).length<=_;have:=hq.ord;rw[fv];omega,fun _=>.step i (by omega) hfr (by rw[hcd];exact hsk) (by rw[hcd];exact hq.yes hok),fun h=>by cases h⟩,by show St _ _ (SRE bs vl q.vm::Az q.vm 320 Em q.met::Az v3 3 (AG .i64) (nI2 (i::q.ord))::((q.X++Az vc 4 Fb (d.set i true)::(r.2++X))++G)) _;rw[gK];exact h⟩
           · refine Ab I (Ae (Aw (Kt (Cr I (Lm I (Lq I (Qi I (by omega)) (Las I (AB (AV (Av ?_))))))))))
             exact AD ((i+1,q.vm,q.met,q.ms,q.X++Az vc 4 Fb (d.set i true)::(r.2++X))) (by dsimp only;omega) ⟨by dsimp only;omega,hq.len,fun a b e h1 h2=>by dsimp only;rw[gK];exact hq.rin a b e h1 h2,hq.le,hmny,hext.trans (hq.no hok).2,fun j hj hf hs=>by
              rcases ke.1 hj with h3|rfl
              · exact hno j h3 hf hs
              · rw[hcd];exact (hq.no hok).1⟩ (Si I) (fun _ h=>by dsimp only;rw[gK];exact h)
     · have hil:i=l.length:=by omega
       have hnc:¬Comp l d m:=Comp.no hov (fun j hj hf hs=>hno j (by omega) hf hs)
       have hF:Fn (d.count false)=1+d.count false*Fn (d.count false-1):=RV hk1
       have hmul:=gr (Fn (d.count false-1)) (O3 d i)
       refine Ab I (AO (Ac (Ac (Ar (Kt (Cs I (Las I (Ak I (Af (row0 3 (AG .i64) none (Pm [1,1] I (Be (rs:=[.tmp 8,.tmp 9]) I I ?_))))))))))))
       exact fun _ h=>⟨(⟨Cg,false,v2,met2,ms2,X,[]⟩:FR),rfl,⟨hml2,hrin2,hle2,by show met2.length<=_;omega,gb _,(fun h=>by cases h),fun _=>⟨hnc,(Ext.own hI.dl hI.ml hnc).trans hext⟩⟩,h⟩
   · rw[fO rfl]
     refine Pw (St _ _ (SRE bs vl v1::Az v1 320 Em met::G)) ?_
     refine Nk (Ai I (Cs I (Las I (Ak I (Af (Aa (row0 3 (AG .i64) none (Pm [1,1] I (Be (rs:=[.tmp 8,.tmp 9]) I I ?_)))))))))
     exact fun _ h=>⟨(⟨Cg,false,v1,met,ms,[],[]⟩:FR),rfl,⟨hI.ml,hI.rin,hI.le,kJ _ _,gb _,(fun h=>by cases h),fun _=>⟨hI.ok.seen hI.dl hI.ml hs,Ext.refl _ _ _⟩⟩,h⟩
theorem O4:∀n,bits (List.replicate n false)=0
 |0=>rfl
 |n+1=>by rw[fT];unfold bits;rw[O4 n];rfl
structure FdR where
 v:Value
 ok:Bool
 ord:List Nat
theorem YY {vd:Value} (h12:l.length<=12) (hc:∀c∈l,O1 c):cq l (List.replicate l.length false) [] sv0 vl vd [] [] [Az vd 4 Fb (List.replicate l.length false),Az vl 60 Ca.enc l]:=by
 have hcl:=kK (a:=false) (l:=List.replicate l.length false)
 rw[jB] at hcl
 refine⟨h12,hc,jB ..,by simp,by simp,.inl ⟨rfl,rfl⟩,MapOk.nil.mono (gb _),rfl,(fun i p e h=>by simp at h),(fun e h=>by cases h),(fun i p e h=>by simp at h),?_⟩
 have:=dX (gF hcl h12)
 show 0+Fn _<=_
 omega
theorem O5 (l:List Ca) (h12:l.length<=12) (hc:∀c∈l,O1 c):Con prog 46 [vl] (fun _=>True) [Az vl 60 Ca.enc l] (fun r:FdR=>.tuple #[r.v,.bool r.ok]) (fun r=>(r.ok=false->¬Comp l (List.replicate l.length false) [])/\(r.ok=true->LV l (List.replicate l.length false) [] r.ord)/\r.ord.length<=l.length) (fun r=>[Az r.v 3 (AG .i64) (nI2 r.ord),Az vl 60 Ca.enc l]):=by
 intro w hE hH
 refine Ey func46 I hH ?_
 refine Cs I (Las I (Ak I (Ag (Cs I (Lm I (Lq I (AL I U36 I (Hrd 0 I)) (Lq I (BS I I I) (Nk (Sf 7 I (by omega) (Ab I (Ae (Kt (Cs I (Lm I (Pre.fact (fun _ h=>B0 (h.at 0 I)) ?_)))))))))))))))
 rintro⟨a1,c2,rfl⟩
 refine Lq I (AN ([(.slice a1 l.length c2),.slice none 0 0,.int .i64 0]) I I (fun w=>by kernel_rfl)) (l_e I (AQ I I I I (fun bs=>Ce [(.slice a1 l.length c2),.slice none 0 0,.int .i64 0] I (Ak I (Cs I (Lm I (Lm I (Lq I (AL I U36 I (Hrd 1 I)) (l_e I (BN Fb false l.length I I I FO QT I I I I I I I (by simp only[ZI];omega) (by omega) (fun vd=>row0 320 Em none (Pm [2] I ?_))))))))))))
 have hf:=QB (l:=l) (bs:=bs) (vl:=(.slice a1 l.length c2)) _ _ _ _ _ (.slice none 0 0) _ _ _ rfl (YY (vd:=vd) h12 hc)
 rw[O4] at hf
 refine l_e I (Ee [] hf I call96 Tt (fun q hq=>Pre.world (St w _ [Az q.vo 3 (AG .i64) (nI2 q.ord),Az (.slice a1 l.length c2) 60 Ca.enc l]) (fun _ h=>h.sublist (.cons _ (.cons _ (.cons_cons _ (List.Sublist.trans (.cons _ (jX _)) (kv q.X _)))))) ?_))
 refine Lq I (Qx I) (Lq I (Qx I) (Las I (Ak I (Af (Be (rs:=[.tmp 2,.tmp 3]) I I ?_)))))
 exact fun _ h=>⟨(⟨q.vo,q.ok,q.ord⟩:FdR),rfl,⟨fun e=>(hq.no e).1,hq.yes,by have h1:=hq.ord;have h2:=kK (a:=false) (l:=List.replicate l.length false);rw[jB] at h2;exact gF h1 h2⟩,h⟩
structure CfR where
 nb:Nat
 nf:Nat
 fl:Nat
 n:Nat
 b:OpsR
structure CfOk (m:Nat) (r:CfR):Prop where
 n1:1<=r.n
 n4:r.n<=4
 f3:r.fl<=3
 nf1:4*(r.n+r.fl)+1<=r.nf
 nf2:r.nf<=4*(r.n+r.fl)+8
 nb1:1<=r.nb
 nb2:r.nb<=64
 len:r.b.o0.length+r.b.o1.length+r.b.o2.length+r.b.o3.length<=m
 ok:∀o,o∈r.b.o0\/o∈r.b.o1\/o∈r.b.o2\/o∈r.b.o3->OpG o
abbrev OpsR.H (b:OpsR) (n:Nat):List Ent:=[Az b.vo 40 DM (b.vs n),Az b.q0.v 43 Opn.enc b.o0,Az b.q1.v 43 Opn.enc b.o1,Az b.q2.v 43 Opn.enc b.o2,Az b.q3.v 43 Opn.enc b.o3]
abbrev cfC (nb nf fl:Nat) (vo:Value):List Value:=[.int .i64 (nb:Int),.int .i64 (nf:Int),.int .i64 (fl:Int),vo]
theorem W1 (x y z:Int) (a:Option Addr) (n c:Nat) (w:World):(Instr.build 27 #[(2,.int .i64 x),(1,.int .i64 y),(0,.int .i64 z),(3,.slice a n c)]).run prog w=.ok (.agg ([.int .i64 z,.int .i64 y,.int .i64 x,.slice a n c]:List Value).toArray) w:=by kernel_rfl
theorem II (nb nf fl:Nat) (a:Option Addr) (m c:Nat):∀v∈cfC nb nf fl (.slice a m c),v.oneCell'=true:=fun v hv=>by
 simp only[cfC,fq,iH,iI] at hv
 rcases hv with rfl|rfl|rfl|rfl<;>rfl
theorem OpsR.vlen (b:OpsR) {n:Nat} (h:n<=4):(b.vs n).length=n:=by unfold OpsR.vs;rw[fJ];exact gV h
theorem YZ (v:Int) (l:List Int):Con prog 24 [.int .i64 v,va] (fun w=>RdV w va (AG .i64) l) [] (fun r:CfR=>.agg (cfC r.nb r.nf r.fl r.b.vo).toArray) (fun r=>CfOk l.length r) (fun r=>r.b.H r.n):=by
 intro w hl hH
 refine E0 func24 I hH ?_
 refine Cs I (l_e I (Au I I I zeroValue27 (fun br=>Ce [.int .i64 0,.int .i64 0,.int .i64 0,.slice none 0 0] I (Nk (Cs I (Lm I (l_e I (E1 (Fp v 1073741824 (by decide) (by decide)) I call27 Tt (fun _ _=>Ak I (Ag ?_))))))))))
 obtain⟨k,hk,hkb⟩:∃k:Nat,v%1073741824=(k:Int)/\k<1073741824:=⟨(v%1073741824).toNat,by omega,by omega⟩
 refine Sv' 5 (.int .i64 (k:Int)) I (by rw[hk]) ?_
 obtain⟨n,hn⟩:∃n:Nat,n=1+k%4:=⟨_,rfl⟩
 obtain⟨f,hf⟩:∃f:Nat,f=k/4%4:=⟨_,rfl⟩
 obtain⟨nf,hnf⟩:∃m:Nat,m=4*(n+f)+1+k/16%8:=⟨_,rfl⟩
 obtain⟨nb,hnb⟩:∃m:Nat,m=1+k/128%12:=⟨_,rfl⟩
 refine Cr I (Lm I (Lq I (Bh I I I (by omega) (by omega)) (Lq I (Bf I I I (by omega)) (Lm I (Lq I (Br I I I (by omega) (by omega) (by omega)) (Lq I (Bh I I I (by omega) (by omega)) (Las I (Ak I (Ag (Sv' 6 (.int .i64 (n:Int)) I (congrArg (Value.int .i64) (by rw[hn];omega)) (Sv' 7 (.int .i64 (f:Int)) I (congrArg (Value.int .i64) (by rw[hf];omega)) (Cr I (Lm I (Lm I (Lm I (Lq I (Bf I I I (by omega)) (Lq I (Gl I I I (by omega)) (Lq I (Bf I I I (by omega)) (Lm I (Lq I (Br I I I (by omega) (by omega) (by omega)) (Lq I (Bh I I I (by omega) (by omega)) (Lq I (Bf I I I (by omega)) (Lm I ?_)))))))))))))))))))))))
 refine Lq I (Br I I I (by omega) (by omega) (by omega)) (Lq I (Bh I I I (by omega) (by omega)) (Lq I (Bf I I I (by omega)) (Lm I (Lm I (Sv' 17 (.int .i64 (f:Int)) I (I) (Sv' 26 (.int .i64 (nf:Int)) I (congrArg (Value.int .i64) (by omega)) (Sv' 30 (.int .i64 (nb:Int)) I (congrArg (Value.int .i64) (by omega)) (l_e I (BV (WT l n (by omega) (by omega)) I I I call25 I (fun _ h=>hl.keep h (by simp[dom])) ?_)))))))))
 rintro b ⟨hb1,hb2⟩
 refine Pw (St w [] (b.H n++[Ad br 27 [.int .i64 0,.int .i64 0,.int .i64 0,.slice none 0 0]])) ?_
 refine Pre.fact (fun _ h=>B0 (h.at 0 I)) ?_
 rintro⟨va2,vc2,hvo⟩
 refine Lq I (AN (cfC nb nf f b.vo) I I (fun w=>(by rw[hvo];exact W1 _ _ _ _ _ _ _))) (l_e I (Au I I I zeroValue27 (fun bc=>Ce [.int .i64 0,.int .i64 0,.int .i64 0,.slice none 0 0] I ?_)))
 have hone:∀v∈cfC nb nf f b.vo,v.oneCell'=true:=by rw[hvo];exact II _ _ _ _ _ _
 refine l_e I (SA Z27 I hone (Ce (cfC nb nf f b.vo) I (Ns (Cs I (Lm I (Lq I (Br I I I (by omega) (by omega) (by omega)) (Lq I (Bh I I I (by omega) (by omega)) (Lq I (BS I I I) (Nk ?_)))))))))
 refine CB 38 I (fun hbl=>?_) (fun hbl=>?_)
 · refine Ai I (Cr I (Lfa U27 I Z3 I (l_e I (AF I I Z3 I I I (iy I) (Ce (cfC 64 nf f b.vo) I (Nk (Cs I (Lq I (Cq _ G27 Z27 0 I I I) ?_))))))))
   have hone2:∀v∈cfC (64) nf f b.vo,v.oneCell'=true:=by rw[hvo];exact II _ _ _ _ _ _
   refine D0 (l_e I (SA Z27 I hone2 (Ce (cfC (64) nf f b.vo) I (Nk (Af ?_)))))
   have hfin:CfOk l.length (⟨64,nf,f,n,b⟩:CfR):=⟨by show 1<=n;omega,by show n<=4;omega,by show f<=3;omega,by show 4*(n+f)+1<=nf;omega,by show nf<=4*(n+f)+8;omega,by show 1<=64;omega,by show 64<=64;omega,hb1,hb2⟩
   refine Pm [2,2,2,2,2,1] I (CL I (AJ I G27 Z27 (Hat 6 I) (I)) ?_)
   exact fun _ h=>⟨(⟨64,nf,f,n,b⟩:CfR),rfl,hfin,h.cut⟩
 · refine Ab I (Ae (Kt (Cs I (Lq I (Cq _ G27 Z27 0 I I I) ?_))))
   have hone2:∀v∈cfC (nb) nf f b.vo,v.oneCell'=true:=by rw[hvo];exact II _ _ _ _ _ _
   refine D0 (l_e I (SA Z27 I hone2 (Ce (cfC (nb) nf f b.vo) I (Nk (Af ?_)))))
   have hfin:CfOk l.length (⟨nb,nf,f,n,b⟩:CfR):=⟨by show 1<=n;omega,by show n<=4;omega,by show f<=3;omega,by show 4*(n+f)+1<=nf;omega,by show nf<=4*(n+f)+8;omega,by show 1<=nb;omega,by show nb<=64;omega,hb1,hb2⟩
   refine Pm [2,2,2,2,2,1] I (CL I (AJ I G27 Z27 (Hat 6 I) (I)) ?_)
   exact fun _ h=>⟨(⟨nb,nf,f,n,b⟩:CfR),rfl,hfin,h.cut⟩
theorem RW {H:List Ent} (s:St w0 D H w) (h:∀e∈b.H n,e∈H):RRo w b.vo (b.vs n) (b.ops n):=by
 have hat:∀e∈b.H n,e.at w:=fun e he=>s.hp.holds e (h e he)
 refine⟨BO (hat (Az b.vo 40 DM (b.vs n)) (by simp)),by unfold OpsR.vs OpsR.ops;rw[fJ,fJ];rfl,fun i s l h1 h2=>?_⟩
 unfold OpsR.vs at h1
 unfold OpsR.ops at h2
 have hi:i<n:=by
  have:=(gl.1 h1).1
  rw[fJ] at this;omega
 rw[kH hi] at h1 h2
 match i with
 |0=>cases h1;cases h2;exact BO (hat (Az b.q0.v 43 Opn.enc b.o0) (by simp))
 |1=>cases h1;cases h2;exact BO (hat (Az b.q1.v 43 Opn.enc b.o1) (by simp))
 |2=>cases h1;cases h2;exact BO (hat (Az b.q2.v 43 Opn.enc b.o2) (by simp))
 |3=>cases h1;cases h2;exact BO (hat (Az b.q3.v 43 Opn.enc b.o3) (by simp))
 |i+4=>simp at h1
theorem OpsR.mem {l:List Opn} (h:l∈b.ops n):l=b.o0\/l=b.o1\/l=b.o2\/l=b.o3:=by
 have:=fF h
 simpa using this
theorem OpsR.olen (b:OpsR) {n:Nat} (h:n<=4):(b.ops n).length=n:=by unfold OpsR.ops;rw[fJ];exact gV h
structure ShR where
 z:HC
 r:CfR
abbrev ShR.m (s:ShR):HM:=hmS s.r.nb s.r.nf s.r.fl (s.r.b.ops s.r.n)
theorem CfOk.each {r:CfR} (h:CfOk k r) {l:List Opn} (hl:l∈r.b.ops r.n):l.length<=k/\∀o∈l,1<=o.kind/\o.kind<=4:=by
 have hlen:=h.len
 rcases OpsR.mem hl with e|e|e|e
 · exact⟨by rw[e];omega,fun o ho=>by have:=h.ok o (.inl (e▸ho));exact⟨this.1,this.2.1⟩⟩
 · exact⟨by rw[e];omega,fun o ho=>by have:=h.ok o (.inr (.inl (e▸ho)));exact⟨this.1,this.2.1⟩⟩
 · exact⟨by rw[e];omega,fun o ho=>by have:=h.ok o (.inr (.inr (.inl (e▸ho))));exact⟨this.1,this.2.1⟩⟩
 · exact⟨by rw[e];omega,fun o ho=>by have:=h.ok o (.inr (.inr (.inr (e▸ho))));exact⟨this.1,this.2.1⟩⟩
theorem W2 (v:Int) (l:List Int):Con prog 11 [.int .i64 v,va] (fun w=>RdV w va (AG .i64) l) [] (fun s:ShR=>.tuple #[ptV s.z.bH,.agg (cfC s.r.nb s.r.nf s.r.fl s.r.b.vo).toArray]) (fun s=>CfOk (min l.length 12) s.r/\HOk s.z s.m 0) (fun s=>s.r.b.H s.r.n++HC.H s.z s.m):=by
 intro w hl hH
 refine E0 func11 I hH ?_
 refine Cs I (Las I (l_e I (Au I I I zeroValue27 (fun br=>Ce [.int .i64 0,.int .i64 0,.int .i64 0,.slice none 0 0] I (Nk (Cs I (Lm I (l_e I (BV (YZ v []) I I I call24 I (fun _ h=>Fc _) ?_)))))))))
 rintro c hc
 obtain⟨nb,nf,f,n,b⟩:=c
 refine Pw (St w [] (b.H n++[Ad br 27 [.int .i64 0,.int .i64 0,.int .i64 0,.slice none 0 0]])) ?_
 refine Pre.fact (fun _ h=>B0 (h.at 0 I)) ?_
 rintro⟨va2,vc2,hvo⟩
 obtain⟨h1n,h4n,hf3,hnf1,hnf2,hnb1,hnb2,_,_⟩:=hc
 dsimp only at h1n h4n hf3 hnf1 hnf2 hnb1 hnb2
 refine l_e I (Au I I I zeroValue27 (fun bc=>Ce [.int .i64 0,.int .i64 0,.int .i64 0,.slice none 0 0] I ?_))
 have hone:∀v∈cfC nb nf f b.vo,v.oneCell'=true:=by rw[hvo];exact II _ _ _ _ _ _
 refine l_e I (SA Z27 I hone (Ce (cfC nb nf f b.vo) I (Nk (Cs I (Lfa U27 I Z25 I (Lo isAgg25 0 I (Lq I (AL I U25 I (Hrd 1 I)) (Ak I (Ag (Sv' 7 (.int .i64 (n:Int)) I (by rw[b.vlen h4n]) (Ex (Av (CY (Av (DS (Av (AV (Av (AM (Av (row0 3 (AG .i64) none (Pm [1,1] I ?_))))))))))))))))))))))
 refine AV (Cr I (Ak I (Ag (Cs I (Ak I ?_)))))
 refine DC (fun (vL:Value) (L:List Int)=>[(1,va),(4,.pointer none),(5,ptV br),(6,ptV bc),(7,.int .i64 (n:Int)),(8,vL)]) (fun (vL:Value) (L:List Int)=>St w [] [Az vL 3 (AG .i64) L,Ad bc 27 (cfC nb nf f b.vo),Ad br 27 [.int .i64 0,.int .i64 0,.int .i64 0,.slice none 0 0]]) (fun (vL:Value) (L:List Int)=>L.length<=12/\L.length<=l.length) ?_ ?_
 · refine Al ?_
   refine E3 (fun (i:Nat) (vL:Value) (L:List Int)=>[(1,va),(4,.pointer none),(5,ptV br),(6,ptV bc),(7,.int .i64 (n:Int)),(8,vL),(9,.int .i64 (i:Int))]) (fun (i:Nat) (vL:Value) (L:List Int)=>St w [] [Az vL 3 (AG .i64) L,Ad bc 27 (cfC nb nf f b.vo),Ad br 27 [.int .i64 0,.int .i64 0,.int .i64 0,.slice none 0 0]]) (fun (i:Nat) (vL:Value) (L:List Int)=>i<=12/\i<=l.length/\L.length=i) (fun (i:Nat) (vL:Value) (L:List Int)=>12-i) (0) (.slice none 0 0) ([]) ⟨gb _,gb _,rfl⟩ (Si I) Ih (fun i vL L hpl=>Ag (Ag ?_))
   obtain⟨hi12,hil,hLl⟩:=hpl
   refine Cr I (Lm I (Lm I (Lq I (AL I U22 I (fun _ h=>hl.keep h (by simp[dom]))) (Lq I (Ql I) (Lm I ?_)))))
   refine CB 21 I (fun h1=>?_) (fun h1=>?_)
   · refine Lm I (Lq I (Ql I) (Lq I (Qy I) (Nk ?_)))
     refine CB 24 I (fun h2=>?_) (fun h2=>?_)
     · obtain⟨x,hx⟩:∃x,l[i]?=some x:=⟨_,fD (by omega)⟩
       refine Ai I (Ae (Ks (Al (Do8 [0,1,2,3,4,6,7,8,9,10,5,11,12,13,14,15,16] 119810421 (fun w2=>RdV w2 va (AG .i64) l) I St.drawn (fun _ h=>hl.keep h (by simp[dom])) (Dm I (Dm I (Dm I (Dq I (As i I U22 Z3 I Ih I I (by omega)) (Dq I (AI i 0 I G3 I I Ih hx I) (Dm I (Dm I (Dq I (As i I U22 Z3 I Ih I I (by omega)) (Dq I (AI i 0 I G3 I I Ih hx I) (Dq I (Zb I I I (by decide)) (d_e I (E1 (Fp _ 512 (by decide) (by decide)) I call27 Tt (fun _ _=>Aj (fun _ h=>hl.keep h (by simp[dom])) (d_e I (E1 (Fp _ 50 (by decide) (by decide)) I call27 Tt (fun _ _=>Aj (fun _ h=>hl.keep h (by simp[dom])) (Dq I (Gl I I I (by omega)) (Dq I (Bf I I I (by omega)) (d_e I (Ax (sz:=1) [.tmp 40] I I I I I U22 Z3 I zeroValue3 I (fun b2=>Aj (fun _ h=>hl.keep h (by simp[dom])) (AM (d_t I (Ap U22 U22 Ez I (fun _ h=>AW (h.at 1 I) (AG .i64) [(x%512+12288*(IntKind.i64.wrap (x.tdiv 512)%50))] I I) (by simp only[fL,fv,jn];omega) ?_))))))))))))))))))))))))))))
       intro v2
       refine AM (Av (d_t I (e_q I I (AE I I) (AK (Aw (Kt (Cr I (Lm I (Lq I (Qi I (by omega)) (Las I (AB ?_)))))))))))
       exact AD ((i+1,v2,L++[(x%512+12288*(IntKind.i64.wrap (x.tdiv 512)%50))])) (by dsimp only;omega) ⟨by dsimp only;omega,by dsimp only;omega,by dsimp only;rw[fL,hLl];rfl⟩ (Si I) (fun _ h=>h)
     · refine Ab I (AO (Ac (Ac (Ar ?_))))
       exact Bb ((vL,L)) ⟨by dsimp only;omega,by dsimp only;omega⟩ (Si I) (fun _ h=>h)
   · refine Lx I (Lx I (Lq I (Qz I) (Nk (Ab I (AO (Ac (Ac (Ar ?_))))))))
     exact Bb ((vL,L)) ⟨by dsimp only;omega,by dsimp only;omega⟩ (Si I) (fun _ h=>h)
 · intro vL L hL
   obtain⟨hL12,hLl⟩:=hL
   refine Cs I (Lm I (Lm I (l_e I (BV (WT L n h1n h4n) I I I call25 I (Hrd 0 I) ?_))))
   rintro b2 ⟨hb1,hb2⟩
   refine Pw (St w [] (b2.H n++[Az vL 3 (AG .i64) L,Ad bc 27 (cfC nb nf f b.vo),Ad br 27 [.int .i64 0,.int .i64 0,.int .i64 0,.slice none 0 0]])) ?_
   refine Pre.fact (fun _ h=>B0 (h.at 0 I)) ?_
   rintro⟨va3,vc3,hvo2⟩
   refine Lfa U27 I Z25 I (D0 (l_e I (AF I I Z25 I I (by rw[hvo2];rfl) (iy I) (Ce (cfC nb nf f b2.vo) I (Nk (Cs I (Lq I (Cq _ G27 Z27 0 I I I) (D0 (Av (Pm [1,1,1,1,1] I ?_))))))))))
   have hcf:CfOk (min l.length 12) (⟨nb,nf,f,n,b2⟩:CfR):=⟨h1n,h4n,hf3,hnf1,hnf2,hnb1,hnb2,by show _<=_;have h9:=hb1;show b2.o0.length+b2.o1.length+b2.o2.length+b2.o3.length<=min l.length 12;omega,hb2⟩
   have hln:=b2.olen h4n
   refine Pre.world (St w [] ((b2.H n++[Ad bc 27 (cfC nb nf f b2.vo),Ad br 27 [.int .i64 0,.int .i64 0,.int .i64 0,.slice none 0 0]])++[])) (fun _ h=>by rw[jc];exact h) ?_
   refine l_e I (Jj (b2.H n++[Ad bc 27 (cfC nb nf f b2.vo),Ad br 27 [.int .i64 0,.int .i64 0,.int .i64 0,.slice none 0 0]]) (HA:=[]) (Zq (vs:=b2.vs n) (ls:=b2.ops n) (nb:=nb) (nf:=nf) (fl:=f) hnb1 (by omega) hf3 (by omega) (by omega) (by omega) (by omega) (fun q hq=>by have:=(hcf.each hq).1;omega) (fun q hq=>(hcf.each hq).2)) I I I call18 I (fun _ h=>RW h (fun e he=>gi _ (gi _ he))) (fun z hz=>Pw (St w [] ((b2.H n++[Ad bc 27 (cfC nb nf f b2.vo),Ad br 27 [.int .i64 0,.int .i64 0,.int .i64 0,.slice none 0 0]])++HC.H z (hmS nb nf f (b2.ops n)))) ?_))
   refine Lm I (Lq I (Qx I) (Lq I (Qx I) (Las I (Ak I (Ag (Cs I (Lm I (Lq I (Qn I) (Lm I (Sb 54 false I (I) (Lm I (Lq I (DZ I underlying24 I I) (Lq I (Qz I) (Lm I (Sb 58 false I (I) (Lm I (l_e I (Ee (b2.H n++[Ad bc 27 (cfC nb nf f b2.vo),Ad br 27 [.int .i64 0,.int .i64 0,.int .i64 0,.slice none 0 0]]) (RC hz) I call19 Tt (fun _ _=>Pw (St w [] ((b2.H n++[Ad bc 27 (cfC nb nf f b2.vo),Ad br 27 [.int .i64 0,.int .i64 0,.int .i64 0,.slice none 0 0]])++HC.H z (hmS nb nf f (b2.ops n)))) ?_)))))))))))))))))))
   refine Lq I (DZ I underlying47 I I) (Lq I (Qz I) (Nk (Sb 62 false I (I) (Ab I (Ae (Ks (Do8 (rg 4) 54 _ I St.drawn Ih (Dm I (Dq I (Cq _ G27 Z27 5 I I I) (Das I ?_))))))))))
   have hone2:∀v∈cfC nb nf f b2.vo,v.oneCell'=true:=by rw[hvo2];exact II _ _ _ _ _ _
   refine D0 (d_t I (SA Z27 I hone2 (Ce (cfC nb nf f b2.vo) I (AK (Kt (Af (BI I (show Sep.look _ _=some _ from I) (AJ I G27 Z27 (Hat 0 I) (I)) ?_)))))))
   exact fun _ h=>⟨(⟨z,⟨nb,nf,f,n,b2⟩⟩:ShR),rfl,⟨hcf,hz⟩,(h.sublist (.cons _ ((jX (b2.H n)).append (.cons _ (jX (HC.H z (hmS nb nf f (b2.ops n))))))))⟩
def KY (l:List Ca):List Nat->List En->Option (List En)
 |[],m=>some m
 |k::ks,m=>if (BA m (l.getD k ca0)).2=true then KY l ks (BA m (l.getD k ca0)).1 else none
theorem LW:∀{ks:List Nat} {k:Nat} {m m':List En},KY l ks m=some m'->(BA m' (l.getD k ca0)).2=true->KY l (ks++[k]) m=some (BA m' (l.getD k ca0)).1
 |[],k,m,m',h,h2=>by
  cases h
  show (if _ then _ else _)=_
  rw[fO h2];rfl
 |j::ks,k,m,m',h,h2=>by
  show (if _ then _ else _)=_
  have h':(if (BA m (l.getD j ca0)).2=true then KY l ks (BA m (l.getD j ca0)).1 else none)=some m':=h
  split at h'
  · rename_i h3
    rw[fO h3];exact LW h' h2
  · cases h'
theorem Hh {l':List Ca}:∀{ks:List Nat} {m:List En},(∀k∈ks,l.getD k ca0=l'.getD k ca0)->KY l ks m=KY l' ks m
 |[],_,_=>rfl
 |k::ks,m,h=>by
  show (if _ then _ else _)=(if _ then _ else _)
  rw[h k (iG ..)]
  split
  · exact Hh (fun j hj=>h j (iR _ hj))
  · rfl
structure Lin (l:List Ca) (n:Nat) (ord:List Nat) (m:List En):Prop where
 lt:∀k∈ord,k<l.length
 nd:ord.Nodup
 don:∀k,k<l.length->(k∈ord↔0<=(l.getD k ca0).to')
 srt:ord.Pairwise (fun a b=>(l.getD a ca0).to'<(l.getD b ca0).to')
 bd:∀c∈l,0<=c.from'/\c.from'<(n:Int)/\(0<=c.to'->c.from'<c.to'/\c.to'<(n:Int))
 run:KY l ord []=some m
theorem KF (h:k<l.length):l.getD k ca0∈l:=by
 rw[ju,fD h];exact fH h
def dOf (n:Nat) (p:List Nat):List Bool:=(List.range n).map (fun j=>decide (j∈p))
theorem QC {j:Nat} (h:j<n):(dOf n p).getD j false=decide (j∈p):=by
 unfold dOf
 rw[ju,gm,gn h];rfl
theorem RX (n:Nat) (p:List Nat):(dOf n p).length=n:=by unfold dOf;rw[gS,jO]
theorem Y0 (h:k<n):(dOf n p).set k true=dOf n (p++[k]):=by
 apply gv
 intro j
 rw[jD,RX]
 by_cases hj:j<n
 · unfold dOf
   rw[gm,gm,gn hj]
   by_cases e:k=j
   · subst e;rw[fO rfl,fO h];simp
   · rw[fR e]
     simp only[gp]
     congr 1
     have:(j∈p++[k])↔j∈p:=by simp[iA e]
     exact (jF.2 this).symm
 · have h1:∀q,(dOf n q)[j]?=none:=fun q=>fI (by rw[RX];omega)
   rw[h1,h1]
   rw[fR (show ¬k=j by omega)]
theorem Y1 (n:Nat):dOf n []=List.replicate n false:=by
 apply gv
 intro j
 unfold dOf
 rw[gm,hM]
 by_cases hj:j<n
 · rw[gn hj,fO hj];simp
 · rw[fI (by rw[jO];omega),fR hj];rfl
theorem Lin.from {m:List En} (h:Lin l n ord m):∀(q p:List Nat) (m':List En),ord=p++q->KY l q m'=some m->Comp l (dOf l.length p) m'
 |[],p,m',e,hr=>by
  refine .over ?_
  unfold FM
  rw[iD]
  intro i hi
  have hi:=gk.1 hi
  rw[QC hi]
  by_cases h0:(l.getD i ca0).to'<0
  · rw[jq h0];rfl
  · have:=(h.don i hi).2 (by omega)
    rw[e,jc] at this
    rw[jq this,kC]
 |k::q,p,m',e,hr=>by
  have hk:k∈ord:=by rw[e];simp
  have hlt:=h.lt k hk
  have hr':(if (BA m' (l.getD k ca0)).2=true then KY l q (BA m' (l.getD k ca0)).1 else none)=some m:=hr
  split at hr'
  · rename_i hs
    refine .step k hlt ?_ hs ?_
    · have hnd:=h.nd
      rw[e,iT] at hnd
      have hnp:k∉p:=fun hp=>hnd.2.2 k hp k (by simp) rfl
      unfold Fq
      rw[QC hlt,jo hnp,Bool.not_false,kg,iD]
      intro j hj
      have hj:=gk.1 hj
      rw[QC hj]
      by_cases hb:bef (l.getD j ca0) (l.getD k ca0)=true
      · have hb':=hb
        unfold bef at hb'
        simp only[gQ,ia] at hb'
        have hjo:=(h.don j hj).2 hb'.1
        have hkt:=(h.don k hlt).1 hk
        have hbd:=(h.bd _ (KF hlt)).2.2 hkt
        rw[e] at hjo
        rcases ib.1 hjo with hp|hq
        · rw[jq hp];simp
        · rcases fq.1 hq with rfl|hq
          · simp
          · have hs:=h.srt
            rw[e,kp] at hs
            have:=(kj.1 hs.2.1).1 j hq
            omega
      · rw[iv.2 hb];simp
    · rw[Y0 hlt]
      exact h.from q (p++[k]) _ (by rw[e,gK];rfl) hr'
  · cases hr'
theorem Lin.comp {m:List En} (h:Lin l n ord m):Comp l (List.replicate l.length false) []:=by
 rw[<-Y1];exact h.from ord [] [] rfl h.run
theorem I5 (ops:List (List Opn)) (ev:List Evt) (x:List Evt):∀i,i<=ev.length->Bj ops (ev++x) i=Bj ops ev i
 |0,_=>rfl
 |i+1,h=>by
  have ih:=I5 ops ev x i (by omega)
  simp only[Bj]
  rw[fM (by omega),ih]
abbrev BE (ops:List (List Opn)) (ev:List Evt):List Ca:=Bj ops ev ev.length
theorem I6 (ops:List (List Opn)) (ev:List Evt) (e:Evt):BE ops (ev++[e])=LP ops (BE ops ev) ev.length e:=by
 show Bj ops (ev++[e]) (ev++[e]).length=_
 rw[fL,jx,KA (x:=e) (by simp),I5 _ _ _ _ (ga _)]
theorem Lin.begin {n:Nat} {m:List En} (h:Lin l n ord m) (c:Ca) (hf:c.from'=(n:Int)) (ht:c.to' = -1):Lin (l++[c]) (n+1) ord m:=by
 have hg:∀k,k<l.length->(l++[c]).getD k ca0=l.getD k ca0:=fun k hk=>by
  rw[ju,ju,fM hk]
 refine⟨fun k hk=>by have:=h.lt k hk;rw[fL,jx];omega,h.nd,fun k hk=>?_,?_,fun x hx=>?_,?_⟩
 · rw[fL,jx] at hk
   by_cases e:k<l.length
   · rw[hg k e];exact h.don k e
   · have e2:k=l.length:=by omega
     subst e2
     have:(l++[c]).getD l.length ca0=c:=by rw[ju];simp
     rw[this,ht]
     exact⟨fun hk=>absurd (h.lt _ hk) (Nat.lt_irrefl _),fun h0=>absurd h0 (by decide)⟩
 · refine h.srt.imp_of_mem (fun {a b} ha hb hab=>?_)
   rw[hg a (h.lt a ha),hg b (h.lt b hb)];exact hab
 · rcases ib.1 hx with hx|hx
   · obtain⟨a,b,d⟩:=h.bd x hx
     exact⟨a,by omega,fun h0=>⟨(d h0).1,by have:=(d h0).2;omega⟩⟩
   · simp only[iE] at hx
     subst hx
     rw[hf,ht]
     exact⟨by omega,by omega,fun h0=>by omega⟩
 · rw[<-h.run]
   exact Hh (fun k hk=>hg k (h.lt k hk))
theorem Lin.wait {m:List En} (h:Lin l n ord m) {f:Ca->Ca} {k:Nat} (hk:k<l.length) (h0:(l.getD k ca0).to'<0) (hs:∀j,j<l.length->j≠k->f (l.getD j ca0)=l.getD j ca0)
 (hf:(f (l.getD k ca0)).from'=(l.getD k ca0).from') (ht:(f (l.getD k ca0)).to'=(n:Int)) {m':List En} (hr:BA m (f (l.getD k ca0))=(m',true)):Lin (l.map f) (n+1) (ord++[k]) m':=by
 have hko:k∉ord:=fun e=>by have:=(h.don k hk).1 e;omega
 have hg:∀j,j<l.length->(l.map f).getD j ca0=f (l.getD j ca0):=fun j hj=>by
  rw[ju,ju,gm,fD hj];rfl
 have hgo:∀j∈ord,(l.map f).getD j ca0=l.getD j ca0:=fun j hj=>by
  rw[hg j (h.lt j hj)];exact hs j (h.lt j hj) (fun e=>hko (e▸hj))
 refine⟨fun j hj=>?_,?_,fun j hj=>?_,?_,fun x hx=>?_,?_⟩
 · rw[gS]
   rcases ib.1 hj with h1|h1
   · exact h.lt j h1
   · simp only[iE] at h1;omega
 · rw[iT]
   exact⟨h.nd,by simp,fun a ha b hb e=>by simp only[iE] at hb;subst hb;subst e;exact hko ha⟩
 · rw[gS] at hj
   rw[hg j hj,ib,iE]
   by_cases e:j=k
   · subst e;rw[ht];exact⟨fun _=>by omega,fun _=>.inr rfl⟩
   · rw[hs j hj e]
     exact⟨fun h1=>(h.don j hj).1 (h1.resolve_right e),fun h1=>.inl ((h.don j hj).2 h1)⟩
 · rw[kp]
   refine⟨h.srt.imp_of_mem (fun {a b} ha hb hab=>by rw[hgo a ha,hgo b hb];exact hab),by simp,fun a ha b hb=>?_⟩
   simp only[iE] at hb
   subst hb
   rw[hgo a ha,hg _ hk,ht]
   have h1:=(h.don a (h.lt a ha)).1 ha
   exact ((h.bd _ (KF (h.lt a ha))).2.2 h1).2
 · obtain⟨y,hy,rfl⟩:=gj.1 hx
   obtain⟨j,hj,rfl⟩:=List.mem_iff_getElem.1 hy
   have ej:l[j]=l.getD j ca0:=by rw[ju,fD hj];rfl
   rw[ej]
   obtain⟨a,b,d⟩:=h.bd _ (KF hj)
   by_cases e:j=k
   · subst e
     rw[hf,ht]
     exact⟨a,by omega,fun _=>⟨b,by omega⟩⟩
   · rw[hs j hj e]
     exact⟨a,by omega,fun h0=>⟨(d h0).1,by have:=(d h0).2;omega⟩⟩
 · have hkk:(l.map f).getD k ca0=f (l.getD k ca0):=hg k hk
   have h1:KY (l.map f) ord []=some m:=by rw[<-h.run];exact Hh hgo
   have h2:=LW (k:=k) h1 (by rw[hkk,hr])
   rw[h2,hkk,hr]
def Je (ops:List (List Opn)) (t nx:Nat):Opn:=(ops.getD t []).getD nx ⟨0,⟨#[]⟩,⟨#[]⟩,0,by decide,by decide⟩
def OpIn (ops:List (List Opn)) (t nx:Nat):Prop:=∃lo o,ops[t]?=some lo/\lo[nx]?=some o/\(o.kind=1\/o.kind=2\/o.kind=3\/o.kind=4)
theorem OpIn.kind {ops:List (List Opn)} {t:Nat} (h:OpIn ops t nx):(Je ops t nx).kind=1\/(Je ops t nx).kind=2\/(Je ops t nx).kind=3\/(Je ops t nx).kind=4:=by
 obtain⟨lo,o,h1,h2,h3⟩:=h
 unfold Je
 rw[ju,ju,h1]
 show ((lo[nx]?).getD _).kind=1\/((lo[nx]?).getD _).kind=2\/((lo[nx]?).getD _).kind=3\/((lo[nx]?).getD _).kind=4
 rw[h2];exact h3
theorem OpIn.ev {ops:List (List Opn)} {t nx:Nat} (h:OpIn ops t nx) (d:Bool) (a:Ans) (ha:(Lit.int .i64 a.code).wf=true) {ev:List Evt} (hev:TD ops ev):TD ops (ev++[⟨(t:Int),(nx:Int),d,a⟩]):=fun x hx=>by
 rcases ib.1 hx with hx|hx
 · exact hev x hx
 · simp only[iE] at hx
   subst hx
   obtain⟨lo,o,h1,h2,h3⟩:=h
   refine⟨ha,t,nx,lo,o,rfl,rfl,h1,h2,?_⟩
   show (ops.getD ((t:Nat):Int).toNat []).getD ((nx:Nat):Int).toNat _=o
   rw[ie,ie,ju,ju,h1]
   show (lo[nx]?).getD _=o
   rw[h2];rfl
structure HI (ops:List (List Opn)) (s:List (Nat×Bool)) (ev:List Evt) (ord:List Nat) (m:List En):Prop where
 lin:Lin (BE ops ev) ev.length ord m
 un:(BE ops ev).Pairwise (fun a b=>¬(a.client=b.client/\a.index=b.index))
 ix:∀c∈BE ops ev,∃(t:Nat) (nx:Nat) (b:Bool),c.client=(t:Int)/\s[t]?=some (nx,b)/\0<=c.index/\(c.index<(nx:Int)\/(c.index=(nx:Int)/\b=true/\c.to'<0))
 bz:∀(t nx:Nat),s[t]?=some (nx,true)->∃k,k<(BE ops ev).length/\((BE ops ev).getD k ca0).client=(t:Int)/\((BE ops ev).getD k ca0).index=(nx:Int)/\((BE ops ev).getD k ca0).op=Je ops t nx/\((BE ops ev).getD k ca0).to'<0
 evk:TD ops ev
 cok:∀c∈BE ops ev,O1 c
 len:(BE ops ev).length=(s.map (fun p=>p.1+if p.2=true then 1 else 0)).sum
theorem HI.nil (ops:List (List Opn)) {s:List (Nat×Bool)} (hs:∀p∈s,p=(0,false)):HI ops s [] [] []:=by
 refine⟨⟨fun k h=>(by cases h),iO,fun k h=>absurd h (jy _),List.Pairwise.nil,fun c h=>(by cases h),rfl⟩,List.Pairwise.nil,fun c h=>(by cases h),fun t nx h=>?_,fun x h=>(by cases h),fun c h=>(by cases h),?_⟩
 · have:=hs _ (hY h);cases this
 · show 0=_
   induction s with
   |nil=>rfl
   |cons p s ih =>
    rw[gB,kF,<-ih (fun q hq=>hs q (iR _ hq)),hs p (iG ..)];rfl
theorem HI.comp {ops:List (List Opn)} {ev:List Evt} {m:List En} (h:HI ops s ev ord m):Comp (BE ops ev) (List.replicate (BE ops ev).length false) []:=h.lin.comp
theorem KG:∀{s:List (Nat×Bool)} {t:Nat} {p q:Nat×Bool},s[t]?=some p->((s.set t q).map (fun p=>p.1+if p.2=true then 1 else 0)).sum+(p.1+if p.2=true then 1 else 0)=(s.map (fun p=>p.1+if p.2=true then 1 else 0)).sum+(q.1+if q.2=true then 1 else 0)
 |[],t,p,q,h=>by simp at h
 |x::s,0,p,q,h=>by simp at h;subst h;simp only[iu,gB,kF];omega
 |x::s,t+1,p,q,h=>by
  have:=KG (s:=s) (t:=t) (p:=p) (q:=q) (by simpa using h)
  simp only[iY,gB,kF];omega
theorem HI.begin {ops:List (List Opn)} {ev:List Evt} {m:List En} (h:HI ops s ev ord m) {t nx:Nat} (ht:s[t]?=some (nx,false)) (hop:OpIn ops t nx):HI ops (s.set t (nx,true)) (ev++[⟨(t:Int),(nx:Int),false,Bx⟩]) ord m:=by
 have hlt:=(gl.1 ht).1
 have hc:BE ops (ev++[⟨(t:Int),(nx:Int),false,Bx⟩])=BE ops ev++[KX ops ev.length ⟨(t:Int),(nx:Int),false,Bx⟩]:=by
  rw[I6];rfl
 have hl:(ev++[(⟨(t:Int),(nx:Int),false,Bx⟩:Evt)]).length=ev.length+1:=by simp
 refine⟨by rw[hc,hl];exact h.lin.begin _ I rfl,?_,fun c hcm=>?_,fun u k hu=>?_,hop.ev false Bx (by decide) h.evk,fun c hcm=>?_,?_⟩
 · rw[hc,kp]
   refine⟨h.un,by simp,fun a ha b hb=>?_⟩
   simp only[iE] at hb
   subst hb
   rintro⟨e1,e2⟩
   obtain⟨u,k,b,h1,h2,h3,h4⟩:=h.ix a ha
   have e1':a.client=(t:Int):=e1
   have e2':a.index=(nx:Int):=e2
   have:u=t:=by omega
   subst this
   rw[ht] at h2;cases h2
   rcases h4 with h4|⟨_,h4,_⟩
   · omega
   · cases h4
 · rw[hc] at hcm
   rcases ib.1 hcm with hcm|hcm
   · obtain⟨u,k,b,h1,h2,h3,h4⟩:=h.ix c hcm
     by_cases e:u=t
     · subst e
       rw[ht] at h2;cases h2
       refine⟨u,nx,true,h1,jV hlt,h3,.inl ?_⟩
       rcases h4 with h4|⟨_,h4,_⟩
       · exact h4
       · cases h4
     · exact⟨u,k,b,h1,by rw[ku (iA e)];exact h2,h3,h4⟩
   · simp only[iE] at hcm
     subst hcm
     exact⟨t,nx,true,rfl,jV hlt,by show (0:Int)<=(nx:Int);omega,.inr ⟨rfl,rfl,by show (-1:Int)<0;decide⟩⟩
 · rw[hc]
   by_cases e:t=u
   · subst e
     rw[jV hlt] at hu
     cases hu
     refine⟨(BE ops ev).length,by simp,?_⟩
     have:(BE ops ev++[KX ops ev.length ⟨(t:Int),(nx:Int),false,Bx⟩]).getD (BE ops ev).length ca0=KX ops ev.length ⟨(t:Int),(nx:Int),false,Bx⟩:=by
      rw[ju];simp
     rw[this]
     exact⟨rfl,rfl,rfl,by show (-1:Int)<0;decide⟩
   · rw[ku e] at hu
     obtain⟨j,h1,h2⟩:=h.bz u k hu
     refine⟨j,by rw[fL];omega,?_⟩
     rw[show (BE ops ev++[KX ops ev.length ⟨(t:Int),(nx:Int),false,Bx⟩]).getD j ca0=(BE ops ev).getD j ca0 by rw[ju,ju,fM h1]]
     exact h2
 · rw[hc] at hcm
   rcases ib.1 hcm with hcm|hcm
   · exact h.cok c hcm
   · simp only[iE] at hcm
     subst hcm
     exact⟨by show (Lit.int .i64 0).wf=true;decide,hop.kind⟩
 · rw[hc,fL,h.len]
   have:=KG (q:=(nx,true)) ht
   simp at this ⊢
   omega
theorem dY (h:l.Pairwise (fun a b=>¬(a.client=b.client/\a.index=b.index))) {j k:Nat} (hj:j<l.length) (hk:k<l.length) (e:(l.getD j ca0).client=(l.getD k ca0).client/\(l.getD j ca0).index=(l.getD k ca0).index):j=k:=by
 have ej:∀i (hi:i<l.length),l.getD i ca0=l[i]:=fun i hi=>by rw[ju,fD hi];rfl
 rw[ej j hj,ej k hk] at e
 rcases Nat.lt_trichotomy j k with h1|h1|h1
 · exact absurd e (j7.1 h j k hj hk h1)
 · exact h1
 · exact absurd ⟨e.1.symm,e.2.symm⟩ (j7.1 h k j hk hj h1)
theorem HI.done {ops:List (List Opn)} {ev:List Evt} {m:List En} (h:HI ops s ev ord m) {t nx:Nat} (ht:s[t]?=some (nx,true)) (hop:OpIn ops t nx) {a:Ans} (ha:(Lit.int .i64 a.code).wf=true) {m':List En} (hr:∀c:Ca,c.op=Je ops t nx->0<=c.to'->c.a=a->BA m c=(m',true)):∃k,HI ops (s.set t (nx+1,false)) (ev++[⟨(t:Int),(nx:Int),true,a⟩]) (ord++[k]) m':=by
 have hlt:=(gl.1 ht).1
 obtain⟨k,hk,k1,k2,k3,k4⟩:=h.bz t nx ht
 have hc:BE ops (ev++[⟨(t:Int),(nx:Int),true,a⟩])=(BE ops ev).map (DO ev.length ⟨(t:Int),(nx:Int),true,a⟩):=by
  rw[I6];rfl
 have hl:(ev++[(⟨(t:Int),(nx:Int),true,a⟩:Evt)]).length=ev.length+1:=by simp
 have hf:DO ev.length ⟨(t:Int),(nx:Int),true,a⟩ ((BE ops ev).getD k ca0)={toC ((BE ops ev).getD k ca0) ev.length with a:=a}:=by
  unfold DO;rw[fO ⟨k1,k2⟩]
 have hs:∀j,j<(BE ops ev).length->j≠k->DO ev.length ⟨(t:Int),(nx:Int),true,a⟩ ((BE ops ev).getD j ca0)=(BE ops ev).getD j ca0:=fun j hj hjk=>by
  unfold DO
  rw[fR]
  rintro⟨e1,e2⟩
  exact hjk (dY h.un hj hk ⟨by rw[k1];exact e1,by rw[k2];exact e2⟩)
 have hci:∀c:Ca,(DO ev.length ⟨(t:Int),(nx:Int),true,a⟩ c).client=c.client/\(DO ev.length ⟨(t:Int),(nx:Int),true,a⟩ c).index=c.index:=fun c=>by
  unfold DO;split<;>exact⟨rfl,rfl⟩
 refine⟨k,by
  rw[hc,hl]
  exact h.lin.wait hk k4 hs (by rw[hf];rfl) (by rw[hf];rfl) (by rw[hf];exact hr _ k3 (by show (0:Int)<=(ev.length:Int);omega) I),?_,fun c hcm=>?_,fun u j hu=>?_,hop.ev true a ha h.evk,fun c hcm=>?_,?_⟩
 · rw[hc,List.pairwise_map]
   refine h.un.imp (fun {x y} hxy=>?_)
   rw[(hci x).1,(hci x).2,(hci y).1,(hci y).2];exact hxy
 · rw[hc] at hcm
   obtain⟨y,hy,rfl⟩:=gj.1 hcm
   rw[(hci y).1,(hci y).2]
   obtain⟨u,j,b,h1,h2,h3,h4⟩:=h.ix y hy
   by_cases e:u=t
   · subst e
     rw[ht] at h2;cases h2
     refine⟨u,nx+1,false,h1,jV hlt,h3,.inl ?_⟩
     rcases h4 with h4|⟨h4,_,_⟩<;>omega
   · refine⟨u,j,b,h1,by rw[ku (iA e)];exact h2,h3,?_⟩
     have:DO ev.length ⟨(t:Int),(nx:Int),true,a⟩ y=y:=by
      unfold DO
      rw[fR]
      rintro⟨e1,_⟩
      have e1':y.client=(t:Int):=e1
      exact e (by omega)
     rw[this];exact h4
 · have e:t≠u:=fun e=>by
    subst e
    rw[jV hlt] at hu;cases hu
   rw[ku e] at hu
   obtain⟨i,h1,h2,h3,h4,h5⟩:=h.bz u j hu
   rw[hc]
   refine⟨i,by rw[gS];exact h1,?_⟩
   have hik:i≠k:=fun e2=>by subst e2;rw[k1] at h2;omega
   rw[show ((BE ops ev).map (DO ev.length ⟨(t:Int),(nx:Int),true,a⟩)).getD i ca0=(BE ops ev).getD i ca0 by
    rw[<-hs i h1 hik,ju,gm,ju,fD h1];rfl]
   exact⟨h2,h3,h4,h5⟩
 · rw[hc] at hcm
   obtain⟨y,hy,rfl⟩:=gj.1 hcm
   have hy':=h.cok y hy
   unfold DO
   split
   · exact⟨ha,hy'.kind⟩
   · exact hy'
 · rw[hc,gS,h.len]
   have:=KG (q:=(nx+1,false)) ht
   simp at this ⊢
   omega
inductive IJ (t nx:Nat) (o:Opn) (m:List En):Bool->Bool->Nat->List Evt->List En->Prop
 |none:IJ t nx o m true true nx [] m
 |begin:IJ t nx o m false true nx [⟨(t:Int),(nx:Int),false,Bx⟩] m
 |big (h:BX o=true):IJ t nx o m false false (nx+1) [⟨(t:Int),(nx:Int),false,Bx⟩,⟨(t:Int),(nx:Int),true,⟨2,false,kv0 16⟩⟩] m
 |done (a:Ans) (m':List En) (ha:(Lit.int .i64 a.code).wf=true) (h:∀c:Ca,c.op=o->0<=c.to'->c.a=a->BA m c=(m',true)):IJ t nx o m true false (nx+1) [⟨(t:Int),(nx:Int),true,a⟩] m'
theorem HI.step {ops:List (List Opn)} {ev:List Evt} {m m':List En} (h:HI ops s ev ord m) {t nx nx':Nat} {b b':Bool} {evs:List Evt} (ht:s[t]?=some (nx,b)) (hop:OpIn ops t nx) (e:IJ t nx (Je ops t nx) m b b' nx' evs m'):∃ord',HI ops (s.set t (nx',b')) (ev++evs) ord' m':=by
 cases e with
 |none=>rw[MR ht,jc];exact⟨ord,h⟩
 |begin=>exact⟨ord,h.begin ht hop⟩
 |big hb =>
  have h1:=h.begin ht hop
  have hlt:=(gl.1 ht).1
  obtain⟨k,h2⟩:=h1.done (jV hlt) hop (a:=⟨2,false,kv0 16⟩) (by show (Lit.int .i64 2).wf=true;decide) (m':=m) (fun c h1 h2 h3=>by
   rw[WZ (by unfold fB;rw[h3,jq h2];rfl),h1,hb,kC])
  rw[List.set_set,gK] at h2
  exact⟨_,h2⟩
 |done a m' ha hr =>
  obtain⟨k,h2⟩:=h.done ht hop ha hr
  exact⟨_,h2⟩
theorem KH (a:Ans):LS a a=true:=by unfold LS;exact jq ⟨rfl,rfl,rfl⟩
theorem W3 {m:List En} {c:Ca} (ho:c.op=o) (ha:c.a=Bx) (h1:BX o=false) (h2:o.kind≠4):BA m c=(Bu m (mOf o),true):=by
 rw[Fs (q:=(Bu m (mOf o),Bx)) (by unfold fB;simp[ha,Bx]) (by rw[ho];exact D9 h1 h2),ha,KH,kC]
theorem Y2 {m:List En} {c:Ca} (ho:c.op=o) (ha:c.a=⟨0,(AS m (kOf o)).2,(AS m (kOf o)).1⟩) (h1:BX o=false) (h2:o.kind=4):BA m c=(m,true):=by
 rw[Fs (q:=(m,⟨0,(AS m (kOf o)).2,(AS m (kOf o)).1⟩)) (by unfold fB;simp[ha]) (by rw[ho];exact MW h1 h2),ha,KH,kC]
theorem Y3 {m:List En} {c:Ca} (h0:0<=c.to') (ha:c.a=⟨3,false,kv0 16⟩):BA m c=(m,true):=by
 rw[WZ (by unfold fB;rw[ha,jq h0];rfl),ha];rfl
namespace Lo
def bzy (c:Cl):Bool:=!decide (c.ph=.idle)
def sOf (m:HM):List (Nat×Bool):=m.cs.map (fun c=>(c.nx,bzy c))
def KI (c:Cl):Prop:=c.ph≠.idle->BX c.op=false/\((∃a,c.ph=.rd a)↔c.op.kind=4)
theorem KI.step (h:KI c) (t:Int) (L:Lf):KI (fe t L c).2.1:=by
 obtain⟨ops,nx,ph⟩:=c
 have hd:KI (Cl.done ⟨ops,nx,ph⟩):=fun e=>absurd rfl e
 have hrd:∀a b:Nat,ph=.rd a->KI ⟨ops,nx,.rd b⟩:=fun a b e _=>by
  subst e
  obtain⟨h1,h2⟩:=h (by simp)
  exact⟨h1,⟨fun _=>h2.1 ⟨_,rfl⟩,fun _=>⟨_,rfl⟩⟩⟩
 have hw:∀p:Ph,(∀a,ph≠.rd a)->ph≠.idle->(∀a,p≠.rd a)->KI ⟨ops,nx,p⟩:=fun p e e0 ep _=>by
  obtain⟨h1,h2⟩:=h e0
  exact⟨h1,⟨fun⟨a,ha⟩=>absurd ha (ep a),fun h4=>by obtain⟨a,ha⟩:=h2.2 h4;exact absurd ha (e a)⟩⟩
 cases ph with
 |idle =>
  unfold fe;dsimp only
  by_cases hT:BX (Cl.op ⟨ops,nx,.idle⟩)=true
  · rw[fO hT];exact hd
  · rw[fR hT]
    by_cases h4:(Cl.op ⟨ops,nx,.idle⟩).kind=4
    · simp only[h4,gR]
      exact fun _=>⟨iv.2 hT,⟨fun _=>h4,fun _=>⟨_,rfl⟩⟩⟩
    · simp only[h4,iL]
      exact fun _=>⟨iv.2 hT,⟨fun⟨a,ha⟩=>(by cases ha),fun e=>absurd e h4⟩⟩
 |rd a =>
  match a with
  |0=>exact hd
  |1=>exact hrd 1 _ rfl
  |2=>exact hrd 2 _ rfl
  |3=>exact hrd 3 _ rfl
  |a+4=>exact hd
 |wr a =>
  match a with
  |0=>exact hw _ (by simp) (by simp) (by simp)
  |1=>exact hw _ (by simp) (by simp) (by simp)
  |2=>exact hw _ (by simp) (by simp) (by simp)
  |a+3 =>
   show KI (if Cd (lfd (Bu (lfe L) (mOf (Cl.op ⟨ops,nx,.wr (a+3)⟩))))=true then _ else _:Lf×Cl×Bool×List Evt).2.1
   split
   · exact hd
   · exact hw _ (by simp) (by simp) (by simp)
 |rm a =>
  by_cases h1:a=1
  · subst h1;exact hw _ (by simp) (by simp) (by simp)
  by_cases h6:a=6
  · subst h6;exact hw _ (by simp) (by simp) (by simp)
  by_cases h7:a=7
  · subst h7;exact hw _ (by simp) (by simp) (by simp)
  · have e:(fe t L ⟨ops,nx,.rm a⟩).2.1=Cl.done ⟨ops,nx,.rm a⟩:=by unfold fe;split<;>simp_all
    rw[e];exact hd
theorem evstep {t:Nat} {L:Lf} (hL:L.Ok) (hp:preC (t:Int) L c) (hk:KI c):IJ t c.nx c.op (mapL L) (bzy c) (bzy (fe (t:Int) L c).2.1) (fe (t:Int) L c).2.1.nx (fe (t:Int) L c).2.2.2 (mapL (fe (t:Int) L c).1):=by
 rcases OQ hL hp with⟨h1,h2,h3,h4,h5,h6⟩|⟨h1,h2⟩
 · rw[h4,h6,show (fe (t:Int) L c).2.2.2=[evD (t:Int) c Bx] by rw[h5]]
   have hb:bzy c=true:=by unfold bzy;rw[h1];rfl
   obtain⟨k1,k2⟩:=hk (by rw[h1];simp)
   rw[hb]
   exact .done Bx _ (by decide) (fun x e1 e2 e3=>W3 e1 e3 k1 (fun e=>by obtain⟨a,ha⟩:=k2.2 e;rw[h1] at ha;cases ha))
 · rw[h1]
   obtain⟨ops,nx,ph⟩:=c
   cases ph with
   |idle =>
    unfold fe;dsimp only
    by_cases hT:BX (Cl.op ⟨ops,nx,.idle⟩)=true
    · rw[fO hT];exact .big hT
    · rw[fR hT]
      by_cases h4:(Cl.op ⟨ops,nx,.idle⟩).kind=4
      · simp only[h4,gR];exact .begin
      · simp only[h4,iL];exact .begin
   |rd a =>
    match a,hp with
    |1,_=>exact .none
    |2,_=>exact .none
    |3,_=>exact .none
    |5,hp =>
     obtain⟨k1,k2⟩:=hk (by simp)
     exact .done _ _ (by show (Lit.int .i64 0).wf=true;decide) (fun x e1 e2 e3=>Y2 e1 (by rw[e3,mapL_at hp.1]) k1 (k2.1 ⟨_,rfl⟩))
   |wr a =>
    match a,hp with
    |0,_=>exact .none
    |1,_=>exact .none
    |2,_=>exact .none
    |3,hp =>
     have e:fe (t:Int) L ⟨ops,nx,.wr 3⟩=(L,⟨ops,nx,.rm 1⟩,false,[]):=by
      show (if Cd (lfd (Bu (lfe L) (mOf (Cl.op ⟨ops,nx,.wr 3⟩))))=true then _ else _)=_
      rw[(h2 rfl).2];rfl
     rw[e];exact .none
   |rm a =>
    match a,hp with
    |1,_=>exact .none
    |6,_=>exact .none
    |7,_=>exact .none
    |10,_=>exact .done _ _ (by show (Lit.int .i64 3).wf=true;decide) (fun x e1 e2 e3=>Y3 e2 e3)
end Lo
open Lo (Lf)
theorem tellT_st (m:HM) (i:Nat):∀(k:Nat) (T:Sc.Tab),k<=T.n->T.st.length=T.n->(fb m k T).st.length=T.n/\(fb m k T).st.getD i 0=if i<k then (if T.st.getD i 0=2 then 2 else stI m i) else T.st.getD i 0
 |0,T,_,hl=>⟨hl,by simp[fb]⟩
 |k+1,T,hk,hl=>by
  obtain⟨h1,h2⟩:=tellT_st m i k T (by omega) hl
  have hn:=tellT_n m k T
  show (Sc.fj (fb m k T) (k:Int) (stI m k)).st.length=_/\(Sc.fj (fb m k T) (k:Int) (stI m k)).st.getD i 0=_
  unfold Sc.fj
  split
  · rename_i hc
    refine⟨by show ((fb m k T).st.set _ _).length=_;rw[je];exact h1,?_⟩
    show ((fb m k T).st.set (k:Int).toNat (stI m k)).getD i 0=_
    rw[Sc.getD_set,ie,h1]
    by_cases e:k=i
    · subst e
      rw[fO ⟨rfl,by omega⟩,fO (by omega)]
      have hc2:=hc.2.2
      rw[ie,h2,fR (by omega)] at hc2
      rw[fR hc2]
    · rw[fR (by simp[e]),h2]
      by_cases e2:i<k
      · rw[fO e2,fO (show i<k+1 by omega)]
      · rw[fR e2,fR (show ¬i<k+1 by omega)]
  · rename_i hc
    refine⟨h1,?_⟩
    rw[h2]
    by_cases e:k=i
    · subst e
      rw[fR (by omega),fO (by omega)]
      have h3:(fb m k T).st.getD k 0=2:=kD (fun h3=>hc ⟨by omega,by rw[hn];omega,by rw[ie];exact h3⟩)
      rw[h2,fR (by omega)] at h3
      rw[h3,fO rfl]
    · by_cases e2:i<k
      · rw[fO e2,fO (show i<k+1 by omega)]
      · rw[fR e2,fR (show ¬i<k+1 by omega)]
structure Tld (x:HM):Prop where
 n8:x.cs.length<=8
 tn:x.T.n=x.cs.length+(x.nf+1)
 tl:x.T.st.length=x.T.n
 told:∀i,i<x.T.n->x.T.st.getD i 0=stI x i
theorem RY {d:Cl} (h:x.cs[i]?=some d) (he:d.ended=true):stI x i=2:=by
 have he2:=he
 unfold Cl.ended at he2
 simp only[gQ,ia] at he2
 have hm:mayI x i=false:=by
  unfold mayI;rw[h]
  show mayC _ _ d=false
  unfold mayC
  obtain⟨ops,nx,ph⟩:=d
  cases ph with
  |idle =>
   have h2:nx=ops.length:=he2.2
   simp[h2]
  |rd r=>exact absurd he2.1 (by show ¬false=true;decide)
  |wr v=>exact absurd he2.1 (by show ¬false=true;decide)
 unfold stI
 rw[hm,fR kA,h]
 show (if d.ended=true then _ else _)=_
 rw[fO he]
structure Alone (x:HM) (t:Nat) (c:Cl):Prop extends Tld x where
 at':x.cs[t]?=some c
 oth:∀(u:Nat) (d:Cl),x.cs[u]?=some d->u≠t->d.ended=true
 may:mayC (t:Int) x.L c=true
theorem Alone.st0 {t:Nat} (h:Alone x t c):stI x t=0:=by
 unfold stI mayI
 rw[h.at']
 show (if mayC _ _ c=true then _ else _)=_
 rw[fO h.may]
theorem Alone.lt {t:Nat} (h:Alone x t c):t<x.T.n:=by
 have:=(gl.1 h.at').1
 have:=h.tn
 omega
theorem Alone.mem {t:Nat} (h:Alone x t c):t∈Sc.fg x.T:=by
 unfold Sc.fg
 refine jE.2 ⟨gk.2 h.lt,?_⟩
 rw[h.told t h.lt,h.st0];rfl
theorem Alone.only {t:Nat} (h:Alone x t c) {u:Nat} (hu:u∈Sc.fg x.T):u=t:=by
 have hlt:=Sc.runM_lt hu
 have h0:x.T.st.getD u 0=0:=by
  unfold Sc.fg at hu
  simpa using (jE.1 hu).2
 rw[h.told u hlt] at h0
 cases hd:x.cs[u]? with
 |none =>
  unfold stI mayI at h0
  rw[hd] at h0
  simp at h0
 |some d =>
  exact kD (fun hne=>by
   rw[RY hd (h.oth u d hd hne)] at h0
   cases h0)
theorem Alone.pre {t:Nat} (h:Alone x t c) (hp:preC (t:Int) x.sq x.L c):x.Pre:=fun u hu=>by
 have:=h.only hu
 subst this
 refine⟨c,h.at',hp,fun hi=>?_⟩
 have hm:=h.may
 unfold mayC at hm
 split at hm
 · rename_i e;rw[e] at hi;cases hi
 · exact hm
theorem TL {t:Nat} (hc:x.cs[t]?=some c) {L':Hm} {c':Cl} {b:Bool} {evs:List Evt} (e:fe (t:Int) x.sq x.L c=(L',c',b,evs)):x.client t={x with L:=L',cs:=x.cs.set t c',sq:=FT b x.sq,ev:=x.ev++evs}:=by
 unfold HM.client;rw[hc];dsimp only;rw[e]
theorem Alone.next {t:Nat} (h:Alone x t c) (p:Int) {L':Hm} {c':Cl} {b:Bool} {evs:List Evt} (e:fe (t:Int) x.sq x.L c=(L',c',b,evs)) :
 ∃T',ff x p=⟨L',x.cs.set t c',x.nf,FT b x.sq,x.pk+1,x.ev++evs,T'⟩/\Tld (ff x p):=by
 have hr:Sc.fg x.T≠[]:=fun hn=>by have:=h.mem;rw[hn] at this;cases this
 have hw:Sc.whoM x.T p=t:=h.only (Sc.who_mem p hr)
 have h1:({x with T:=Sc.fc x.T p,pk:=x.pk+1}:HM).client t=⟨L',x.cs.set t c',x.nf,FT b x.sq,x.pk+1,x.ev++evs,Sc.fc x.T p⟩ :=
  TL (x:={x with T:=Sc.fc x.T p,pk:=x.pk+1}) h.at' e
 have hs:ff x p=⟨L',x.cs.set t c',x.nf,FT b x.sq,x.pk+1,x.ev++evs,fb ⟨L',x.cs.set t c',x.nf,FT b x.sq,x.pk+1,x.ev++evs,Sc.fc x.T p⟩ x.T.n (Sc.fc x.T p)⟩:=by
  unfold ff
  rw[fR hr,hw,h1]
 refine⟨_,hs,?_⟩
 rw[hs]
 have hst:=Lo.pick_st x.T p
 have hn:=Sc.pick_n x.T p
 have hl:(Sc.fc x.T p).st.length=(Sc.fc x.T p).n:=by rw[hst,hn];exact h.tl
 refine⟨by show (x.cs.set t c').length<=8;rw[je];exact h.n8,?_,?_,fun i hin=>?_⟩
 · show (fb _ _ _).n=(x.cs.set t c').length+_
   rw[tellT_n,hn,h.tn,je]
 · show (fb _ _ _).st.length=(fb _ _ _).n
   rw[tellT_n,(tellT_st _ 0 x.T.n (Sc.fc x.T p) (by rw[hn];exact ga _) hl).1]
 · have hin2:i<x.T.n:=by
    have:i<(fb _ x.T.n (Sc.fc x.T p)).n:=hin
    rw[tellT_n,hn] at this;exact this
   show (fb _ _ _).st.getD i 0=stI _ i
   rw[(tellT_st _ i x.T.n (Sc.fc x.T p) (by rw[hn];exact ga _) hl).2,fO hin2,hst]
   split
   · rename_i h2
     have hit:i≠t:=fun e2=>by subst e2;rw[h.told i hin2,h.st0] at h2;cases h2
     rw[h.told i hin2] at h2
     cases hd:x.cs[i]? with
     |none =>
      unfold stI mayI at h2
      rw[hd] at h2
      simp at h2
     |some d =>
      have hd2:(x.cs.set t c')[i]?=some d:=by rw[ku (iA hit)];exact hd
      exact (RY (x:=⟨L',x.cs.set t c',x.nf,FT b x.sq,x.pk+1,x.ev++evs,_⟩) hd2 (h.oth i d hd hit)).symm
   · rfl
theorem Alone.go {t:Nat} (h:Alone x t c) (p:Int) {L':Hm} {c':Cl} {b:Bool} {evs:List Evt} (e:fe (t:Int) x.sq x.L c=(L',c',b,evs)) (hm:mayC (t:Int) L' c'=true):Alone (ff x p) t c'/\(ff x p).L=L'/\(ff x p).ev=x.ev++evs/\(ff x p).cs=x.cs.set t c'/\(ff x p).pk=x.pk+1:=by
 obtain⟨T',h1,h2⟩:=h.next p e
 have hlt:=(gl.1 h.at').1
 refine⟨⟨h2,?_,fun u d hd hu=>?_,?_⟩,by rw[h1],by rw[h1],by rw[h1],by rw[h1]⟩
 · rw[h1];exact jV hlt
 · rw[h1] at hd
   have:(x.cs.set t c')[u]?=some d:=hd
   rw[ku (iA hu)] at this
   exact h.oth u d this hu
 · rw[h1];exact hm
theorem Alone.fin {t:Nat} (h:Alone x t c) (p:Int) {L':Hm} {c':Cl} {b:Bool} {evs:List Evt} (e:fe (t:Int) x.sq x.L c=(L',c',b,evs)) (hm:c'.ended=true):(ff x p).cs.all Cl.ended=true/\(ff x p).L=L'/\(ff x p).ev=x.ev++evs/\(ff x p).cs=x.cs.set t c'/\(ff x p).pk=x.pk+1:=by
 obtain⟨T',h1,h2⟩:=h.next p e
 have hlt:=(gl.1 h.at').1
 refine⟨?_,by rw[h1],by rw[h1],by rw[h1],by rw[h1]⟩
 rw[h1,iD]
 intro d hd
 obtain⟨u,hu⟩:=jK.1 hd
 by_cases e2:u=t
 · subst e2
   have:(x.cs.set u c')[u]?=some d:=hu
   rw[jV hlt] at this;cases this;exact hm
 · have:(x.cs.set t c')[u]?=some d:=hu
   rw[ku (iA e2)] at this
   exact h.oth u d this e2
theorem Y4 (k:Nat):(st1 (k+3)).al 2=([1,2],(((((st1 (k+3)).alloc 1).put 1 bkL).alloc 2).put 2 bkL)):=rfl
theorem TM (h1:1<=n) (h:¬(st1 n).left<2):∃k,n=k+3:=by
 match n,h1 with
 |1,_=>exact absurd (by decide) h
 |2,_=>exact absurd (by decide) h
 |k+3,_=>exact⟨k,rfl⟩
structure Gr (L:Lf) (t:Int):Prop where
 ok:L.Ok
 tk:tkB t=true
 st:L.r.st=2
 wr:L.la.wr=t
 ld:L.ld=[]
 q:t∉L.la.q.map Prod.fst
 s:∃k,L.s=st1 (k+3)
 sl:2<=L.s.left
 l2:2<=L.r.nd.es.length
theorem Gr.es {L:Lf} (h:Gr L t):∃es,L.r.nd=Lo.lfd es/\B8 es/\Cd (Lo.lfd es)=true:=h.ok.nd h.st
theorem Gr.has {L:Lf} (h:Gr L t):DH L.la t=true:=by unfold DH;rw[jq h.wr,Bool.true_or]
theorem Gr.mayH {L:Lf} (h:Gr L t):L.mayH t=true:=by
 unfold Lf.mayH
 rw[Lf.may_iff,h.ld,h.tk,jo h.q];rfl
theorem Gr.claim {L:Lf} (h:Gr L t) (hc:L.cl<=1):Gr (L.claim t) t:=⟨h.ok.claim_ok t hc,h.tk,h.st,h.wr,h.ld,h.q,h.s,h.sl,h.l2⟩
def pvt (L:Lf):Kv 8:=(L.r.nd.es.getD (spl L.r.nd.es) en0).key
def ndR (L:Lf):Nd:=⟨false,[],[((1:Nat):Int),((2:Nat):Int)],[pvt L],[]⟩
def gH (L:Lf) (s:Sto) (nd:Nd):Hm:=⟨⟨{L.r with dirty:=true,nd:=nd}::⟨2,((1:Nat):Int),0,0,true,true,lfN (L.r.nd.es.take (spl L.r.nd.es))⟩::⟨2,((2:Nat):Int),0,0,true,true,lfN (L.r.nd.es.drop (spl L.r.nd.es))⟩::List.replicate (L.n-3) BG,[],[],0⟩,s,L.las,L.rds⟩
theorem dZ {L:Lf} (h5:5<=L.n) (hc:L.cl=2):L.rest=Lo.cf L.ct::Lo.cf L.ct::List.replicate (L.n-3) BG:=by
 unfold Lf.rest
 rw[hc]
 show Lo.cf L.ct::Lo.cf L.ct::List.replicate (L.n-1-2) BG=_
 rw[show L.n-1-2=L.n-3 by omega]
theorem Gr.ids {L:Lf} (h:Gr L t):(eL L).ids=(1,2):=by
 obtain⟨k,hk⟩:=h.s
 unfold Hm.ids
 show ((L.s.al 2).1.getD 0 0,(L.s.al 2).1.getD 1 0)=_
 rw[hk,Y4];rfl
theorem Gr.grow {L:Lf} (h:Gr L t) (hc:L.cl=2) (hct:L.ct=t):(eL L).grow t=gH L (L.s.al 2).2 (ndR L):=by
 have hids:=h.ids
 have hnd:(eL L).nd 0=L.r.nd:=Gf h.ok h.st
 unfold Hm.grow
 rw[hids,hnd]
 have hb0:L.r.blk=0:=h.ok.blk (by rw[h.st];decide)
 have hI0:isB 0 L.r=true:=by unfold isB;rw[hb0,h.st];rfl
 have hsn:∀nd:Nd,L.M.setN 0 nd=(true,⟨{L.r with dirty:=true,nd:=nd}::L.rest,[],[],0⟩):=fun nd=>by
  have hf:L.M.frI 0 2=some 0:=OO h.ok h.st
  unfold Mo.setN Mo.ready
  rw[hf]
  show (true,(⟨(L.r::L.rest).set 0 {L.r with dirty:=true,nd:=nd},L.ld.map (fun t=>(t,0)),[],0⟩:Mo))=_
  rw[h.ld];rfl
 have h1:({(eL L) with s:=((eL L).s.al 2).2}:Hm).setN 0 ⟨false,[],[((1:Nat):Int),((2:Nat):Int)],[(L.r.nd.es.getD (spl L.r.nd.es) en0).key],[]⟩=⟨⟨{L.r with dirty:=true,nd:=ndR L}::L.rest,[],[],0⟩,(L.s.al 2).2,L.las,L.rds⟩:=by
  show (⟨(L.M.setN 0 _).2,(L.s.al 2).2,L.las,L.rds⟩:Hm)=_
  rw[hsn];rfl
 rw[h1,dZ h.ok.n5 hc,hct]
 have hfr:∀(b:Nat) (l:List Vw),(∀f∈l,isB (b:Int) f=false)->Cp (isB (b:Int)) l=none:=fun b l hl=>C3 hl
 have hr1:isB ((1:Nat):Int) {L.r with dirty:=true,nd:=ndR L}=false:=by unfold isB;rw[show ({L.r with dirty:=true,nd:=ndR L}:Vw).blk=0 from hb0];rfl
 have hr2:isB ((2:Nat):Int) {L.r with dirty:=true,nd:=ndR L}=false:=by unfold isB;rw[show ({L.r with dirty:=true,nd:=ndR L}:Vw).blk=0 from hb0];rfl
 have hc0:isC t {L.r with dirty:=true,nd:=ndR L}=false:=by unfold isC;rw[show ({L.r with dirty:=true,nd:=ndR L}:Vw).st=2 from h.st];rfl
 have hcc:isC t (Lo.cf t)=true:=by unfold isC Lo.cf;simp
 have hn1:∀(x:Nd),(⟨{L.r with dirty:=true,nd:=ndR L}::Lo.cf t::Lo.cf t::List.replicate (L.n-3) BG,[],[],0⟩:Mo).name t ((1:Nat):Int) x=(true,⟨{L.r with dirty:=true,nd:=ndR L}::⟨2,((1:Nat):Int),0,0,true,true,x⟩::Lo.cf t::List.replicate (L.n-3) BG,[],[],0⟩):=fun x=>by
  have hf:(⟨{L.r with dirty:=true,nd:=ndR L}::Lo.cf t::Lo.cf t::List.replicate (L.n-3) BG,[],[],0⟩:Mo).find ((1:Nat):Int)=none:=by
   refine hfr 1 _ (fun f hf=>?_)
   simp only[fq] at hf
   rcases hf with rfl|rfl|rfl|hf
   · exact hr1
   · rfl
   · rfl
   · rw[(ic.1 hf).2];rfl
  have hcl:Cp (isC t) ({L.r with dirty:=true,nd:=ndR L}::Lo.cf t::Lo.cf t::List.replicate (L.n-3) BG)=some 1:=by
   rw[Lo.Lf.fst1_cons,hc0,Lo.Lf.fst1_cons,hcc];rfl
  unfold Mo.name
  rw[hf,hcl]
  rfl
 have hn2:∀(x y:Nd),(⟨{L.r with dirty:=true,nd:=ndR L}::⟨2,((1:Nat):Int),0,0,true,true,x⟩::Lo.cf t::List.replicate (L.n-3) BG,[],[],0⟩:Mo).name t ((2:Nat):Int) y=(true,⟨{L.r with dirty:=true,nd:=ndR L}::⟨2,((1:Nat):Int),0,0,true,true,x⟩::⟨2,((2:Nat):Int),0,0,true,true,y⟩::List.replicate (L.n-3) BG,[],[],0⟩):=fun x y=>by
  have hf:(⟨{L.r with dirty:=true,nd:=ndR L}::⟨2,((1:Nat):Int),0,0,true,true,x⟩::Lo.cf t::List.replicate (L.n-3) BG,[],[],0⟩:Mo).find ((2:Nat):Int)=none:=by
   refine hfr 2 _ (fun f hf=>?_)
   simp only[fq] at hf
   rcases hf with rfl|rfl|rfl|hf
   · exact hr2
   · rfl
   · rfl
   · rw[(ic.1 hf).2];rfl
  have hcl:Cp (isC t) ({L.r with dirty:=true,nd:=ndR L}::(⟨2,((1:Nat):Int),0,0,true,true,x⟩:Vw)::Lo.cf t::List.replicate (L.n-3) BG)=some 2:=by
   rw[Lo.Lf.fst1_cons,hc0,Lo.Lf.fst1_cons,show isC t (⟨2,((1:Nat):Int),0,0,true,true,x⟩:Vw)=false from rfl,Lo.Lf.fst1_cons,hcc];rfl
  unfold Mo.name
  rw[hf,hcl]
  rfl
 unfold Hm.name
 dsimp only
 rw[hn1,hn2]
 rfl
theorem eb {l:List En} (h:Cd (Lo.lfd l)=true) (h2:2<=l.length):kck (l.getD (spl l) en0).key=true:=by
 rw[ju]
 cases he:l[spl l]? with
 |none=>decide
 |some e=>exact (El h e (hY he)).1
theorem Y5 {l:List En} (hk:∀e∈l,kck e.key=true/\vck e.val=true) (h:1<=l.length):0<lby l:=by
 cases l with
 |nil=>simp at h
 |cons e l =>
  have h1:=hk e (iG ..)
  have a1:=Ik h1.1
  have a2:=Il h1.2
  have hl:∀l:List En,(∀e∈l,kck e.key=true/\vck e.val=true)->0<=lby l:=fun l hk=>by
   induction l with
   |nil=>simp[lby]
   |cons x l ih =>
    have h1:=hk x (iG ..)
    have a1:=Ik h1.1
    have a2:=Il h1.2
    have:=ih (fun y hy=>hk y (iR _ hy))
    unfold lby lsz at *
    simp only[gB,kF]
    omega
  have:=hl l (fun y hy=>hk y (iR _ hy))
  unfold lby lsz at *
  simp only[gB,kF]
  omega
theorem Y6 {l r:List En} (hk:∀e∈l,kck e.key=true/\vck e.val=true) (h:r.Sublist l):lby r<=lby l:=by
 induction h with
 |slnil=>exact Int.le_refl _
 |cons e _ ih =>
  have h1:=hk e (iG ..)
  have a1:=Ik h1.1
  have a2:=Il h1.2
  have:=ih (fun y hy=>hk y (iR _ hy))
  unfold lby lsz at *
  simp only[gB,kF]
  omega
 |cons_cons e _ ih =>
  have:=ih (fun y hy=>hk y (iR _ hy))
  unfold lby lsz at *
  simp only[gB,kF]
  omega
theorem Js {l r:List En} (h:Cd (Lo.lfd l)=true) (hr:B8 l) (hs:r.Sublist l):Fk (lfN r)=true/\(lfN r).Sm 1000:=by
 have hk:=El h
 have hf:Cd (Lo.lfd r)=true:=by
  unfold Cd
  have e1:lck (Lo.lfd r).es=true:=Wu (hr.sublist hs) (fun e he=>hk e (hs.subset he))
  have e2:lby (Lo.lfd r).es<=248:=jS (Y6 hk hs) (Fm h).2
  rw[e1,jq e2];rfl
 exact⟨hf,MI hf⟩
theorem Gr.fitR {L:Lf} (h:Gr L t):Fk (ndR L)=true/\(ndR L).Sm 1000:=by
 obtain⟨es,e,hr,hf⟩:=h.es
 have hl:=h.l2
 have hp:kck (pvt L)=true:=by
  unfold pvt
  rw[e]
  exact eb hf (by rw[e] at hl;exact hl)
 refine⟨?_,⟨gb _,by show 2<=1000;decide,by show 1<=1000;decide,gb _⟩⟩
 show GC (ndR L)=true
 unfold GC F9 ndR
 have h1:fck [((1:Nat):Int),((2:Nat):Int)] [pvt L]=true:=by
  unfold fck
  have:FE kck ltK [pvt L]=true:=by simp[FE,Jb,hp]
  rw[this]
  show (decide (2<=2/\2<=4/\1+1=2)&&((List.range 2).all (fkB [((1:Nat):Int),((2:Nat):Int)])&&true))=true
  rfl
 rw[h1]
 show (decide ((0:Nat)=0)&&(true&&bck [])&&decide (bby []<=205))=true
 decide
theorem Gr.growP {L:Lf} (h:Gr L t):Zn (eL L) t:=by
 obtain⟨es,e,hr,hf⟩:=h.es
 have hids:=h.ids
 have hnd:(eL L).nd 0=L.r.nd:=Gf h.ok h.st
 have hk:=El hf
 have hl:=h.l2
 obtain⟨k,hs⟩:=h.s
 have hfr:=h.fitR
 have hes:L.r.nd.es=es:=by rw[e];rfl
 have hS:(eL L).s=L.s:=rfl
 have hsm:=MI hf
 constructor
 · rw[hnd,e];rfl
 · rw[hnd,hes]
   exact UN (Fm hf).1
 · rw[hnd];exact hl
 · rw[hnd,hes];exact Y5 hk (by rw[hes] at hl;omega)
 · rw[hnd,hes];exact gF hsm.e (by decide)
 · rw[hS];exact h.sl
 · rw[hS,hs]
   intro j hj
   match j,hj with
   |0,_=>exact⟨1,rfl⟩
   |1,_=>exact⟨2,rfl⟩
 · rw[hids,hS,hs];rfl
 · rw[hids];decide
 · rw[hids];rfl
 · rw[hids];rfl
 · rw[hids,hS,hs];rfl
 · rw[hids,hS,hs];rfl
 · rw[GM h.ok h.st];exact h.wr
 · rw[hids,hnd];exact hfr.1
 · rw[hids,hnd];exact hfr.2
 · rw[hnd,hes];exact (Js hf hr (kr ..)).1
 · rw[hnd,hes];exact (Js hf hr (kr ..)).2
 · rw[hnd,hes];exact (Js hf hr (List.drop_sublist ..)).1
 · rw[hnd,hes];exact (Js hf hr (List.drop_sublist ..)).2
theorem Hi {L:Lf} (h:Gr L t) (s:Sto) (nd:Nd):(gH L s nd).M.frI 0 2=some 0:=by
 have hb0:L.r.blk=0:=h.ok.blk (by rw[h.st];decide)
 have hI0:isB 0 {L.r with dirty:=true,nd:=nd}=true:=by unfold isB;rw[show ({L.r with dirty:=true,nd:=nd}:Vw).blk=0 from hb0,show ({L.r with dirty:=true,nd:=nd}:Vw).st=2 from h.st];rfl
 have hf:(gH L s nd).M.find 0=some 0:=by
  show Cp (isB 0) ({L.r with dirty:=true,nd:=nd}::_)=_
  rw[Lo.Lf.fst1_cons,hI0];rfl
 unfold Mo.frI
 rw[hf]
 show (if ({L.r with dirty:=true,nd:=nd}:Vw).st=2 then some 0 else none)=_
 rw[fO h.st]
theorem Zx {L:Lf} (h:Gr L t) (s:Sto) (nd:Nd):(gH L s nd).fi 0=0:=by unfold Hm.fi;rw[Hi h];rfl
theorem ec {L:Lf} (h:Gr L t) (s:Sto) (nd:Nd):(gH L s nd).nd 0=nd:=by unfold Hm.nd;rw[Zx h];rfl
theorem RZ {L:Lf} (h:Gr L t) (s:Sto) (nd:Nd):(gH L s nd).look=nd:=by unfold Hm.look;rw[Hi h];rfl
theorem cr {L:Lf} (h:Gr L t) (s:Sto) (nd:Nd):(gH L s nd).may t=true:=by
 unfold Hm.may
 show (!(L.la::List.replicate (L.n-1) Lt.newL).any (fun l=>decide (t∈l.q.map Prod.fst))&&_)=_
 rw[List.any_cons,RH,jo h.q]
 show Mo.may _ t=true
 unfold Mo.may
 rw[h.tk];rfl
structure eZ (m:Ms):Prop where
 k:mck m=true
theorem ed (hk:o.kind=1\/o.kind=2\/o.kind=3) (s:Int):mck ((mOf o).num s)=true:=by
 have e:mck ((mOf o).num s)=mck (mOf o):=by unfold Ms.num;split<;>rfl
 rw[e]
 unfold mck
 have h1:kck (mOf o).key=true:=E9 o
 rw[h1,kg]
 rcases hk with h|h|h
 · have hv:(mOf o).val=vOf o:=by show (if o.kind=1 then vOf o else kv0 16)=_;rw[fO h]
   have hb:(mOf o).by'=0:=by show (if o.kind=3 then o.by' else 0)=0;rw[fR (by rw[h];decide)]
   rw[fO (show (mOf o).kind=1 from h),hv,hb,OS o];rfl
 · have hv:(mOf o).val=kv0 16:=by show (if o.kind=1 then vOf o else kv0 16)=_;rw[fR (by rw[h];decide)]
   have hb:(mOf o).by'=0:=by show (if o.kind=3 then o.by' else 0)=0;rw[fR (by rw[h];decide)]
   rw[fR (show ¬(mOf o).kind=1 by rw[show (mOf o).kind=2 from h];decide),fO (show (mOf o).kind=2 from h),hv,hb]
   simp
 · have hv:(mOf o).val=kv0 16:=by show (if o.kind=1 then vOf o else kv0 16)=_;rw[fR (by rw[h];decide)]
   rw[fR (show ¬(mOf o).kind=1 by rw[show (mOf o).kind=3 from h];decide),fR (show ¬(mOf o).kind=2 by rw[show (mOf o).kind=3 from h];decide),fO (show (mOf o).kind=3 from h),hv]
   simp
theorem cu (L:Lf) (m:Ms):CJ (ndR L) m={ndR L with msgs:=[m]}:=by
 unfold CJ
 have:DW (ndR L).msgs m=[m]:=by
  show DW [] m=[m]
  unfold DW
  simp[gis]
 rw[this]
theorem Y7 {L:Lf} (h:Gr L t) {m:Ms} (hm:mck m=true):GC {ndR L with msgs:=[m]}=true/\({ndR L with msgs:=[m]}:Nd).Sm 1000/\Et {ndR L with msgs:=[m]}=false:=by
 have hf:=h.fitR
 have hf1:GC (ndR L)=true:=hf.1
 have hb:=PL m
 have e:bby [m]=mby m:=by unfold bby;simp
 refine⟨?_,⟨gb _,by show 2<=1000;decide,by show 1<=1000;decide,by show 1<=1000;decide⟩,?_⟩
 · unfold GC F9 at hf1 ⊢
   simp only[gQ] at hf1 ⊢
   refine⟨⟨hf1.1.1,hf1.1.2.1,?_⟩,?_⟩
   · show bck [m]=true
     unfold bck;simp[FE,Jb,hm]
   · show decide (bby [m]<=205)=true
     rw[e];exact jq (by omega)
 · unfold Et My
   show (!false&&decide (205<=2*bby [m]))=false
   rw[e,jo (by omega)];rfl
theorem O6 {L:Lf} (h:Gr L t) {nd:Nd} (hh:Et nd=false) (hs:nd.Sm 1000):DA (gH L (L.s.al 2).2 nd):=by
 obtain⟨k,hk⟩:=h.s
 refine⟨rfl,by rw[RZ h];exact hh,by rw[RZ h];exact hs.mono (by decide),?_,fun e=>?_⟩
 · show (L.s.al 2).2.us[0]?=some true
   rw[hk];rfl
 · rw[Hi h] at e;cases e
theorem W4 {L:Lf} (h:Gr L t) (s:Sto) (nd:Nd):∃r':Vw,r'.st=2/\r'.blk=0/\r'.nd=nd/\((gH L s nd).M.unpin 0).2=⟨r'::(gH L s nd).M.fr.drop 1,[],[],0⟩:=by
 have hb0:L.r.blk=0:=h.ok.blk (by rw[h.st];decide)
 unfold Mo.unpin Mo.ready
 rw[Hi h]
 dsimp only
 split
 · exact⟨{L.r with dirty:=true,nd:=nd},h.st,hb0,rfl,rfl⟩
 · exact⟨{L.r with dirty:=true,nd:=nd,pins:=L.r.pins-1},h.st,hb0,rfl,rfl⟩
def v4 (a:Int):Wv:=⟨4,true,some (a,true,0),0⟩
def v3:Wv:=⟨3,true,none,0⟩
theorem wr1 {L:Lf} (h:Gr L t) {c:Cl} (hp:c.ph=.wr (v4 1)):preC t sq (eL L) c/\fe t sq (eL L) c=(eL L,{c with ph:=.wr (v4 6)},false,[]):=by
 refine⟨?_,Dk hp (v2:=v4 6) (inn:=false) I (by show (4:Int)≠5;decide)⟩
 obtain⟨es,e,hr,hf⟩:=h.es
 unfold preC;rw[hp]
 exact⟨1,rfl,Eu h.ok h.st,.inl ⟨rfl,by rw[Gf h.ok h.st,e];rfl,by rw[Gf h.ok h.st];exact h.l2⟩⟩
theorem Gr.cl {L:Lf} (h:Gr L t) (hc:L.cl=0\/L.ct=t):(eL L).claim t=(true,eL (L.claim t)):=Gg h.ok h.tk (by rw[h.ld];simp) (by rw[h.st];decide) hc
theorem wr6 {L:Lf} (h:Gr L t) (hc:L.cl=0\/L.ct=t) {c:Cl} (hp:c.ph=.wr (v4 6)):preC t sq (eL L) c/\fe t sq (eL L) c=(eL (L.claim t),{c with ph:=.wr (v4 7)},false,[]):=by
 have hcl:=h.cl hc
 refine⟨?_,Dk hp (v2:=v4 7) (inn:=false) ?_ (by show (4:Int)≠5;decide)⟩
 · unfold preC;rw[hp]
   exact⟨6,rfl,Eu h.ok h.st,.inr (.inl ⟨rfl,by rw[hcl]⟩)⟩
 · show (((eL L).claim t).2,v4 7,false)=_
   rw[hcl]
theorem wr7 {L:Lf} (h:Gr L t) (hc:L.cl=0\/L.ct=t) {c:Cl} (hp:c.ph=.wr (v4 7)):preC t sq (eL L) c/\fe t sq (eL L) c=(eL (L.claim t),{c with ph:=.wr (v4 10)},false,[]):=by
 have hcl:=h.cl hc
 refine⟨?_,Dk hp (v2:=v4 10) (inn:=false) ?_ (by show (4:Int)≠5;decide)⟩
 · unfold preC;rw[hp]
   exact⟨7,rfl,Eu h.ok h.st,.inr (.inr (.inl ⟨rfl,by rw[hcl]⟩))⟩
 · show (((eL L).claim t).2,v4 10,false)=_
   rw[hcl]
theorem eW {L:Lf} (h:Gr L t) (hc:L.cl=2) (hct:L.ct=t) {c:Cl} (hp:c.ph=.wr (v4 10)):preC t sq (eL L) c/\fe t sq (eL L) c=(gH L (L.s.al 2).2 (ndR L),{c with ph:=.wr v3},false,[]):=by
 have hls:¬(eL L).s.left<2:=by have:2<=(eL L).s.left:=h.sl;omega
 refine⟨?_,Dk hp (v2:=v3) (inn:=false) ?_ (by show (3:Int)≠5;decide)⟩
 · unfold preC;rw[hp]
   refine⟨10,rfl,Eu h.ok h.st,.inr (.inr (.inr ⟨rfl,?_,fun hn=>absurd hn hls,fun _=>h.growP⟩))⟩
   show 2<=L.M.claims t
   rw[<-hct,LJ h.ok,hc];exact ga _
 · show (if (eL L).s.left<2 then _ else _:Hm×Wv×Bool)=_
   rw[fR hls,h.grow hc hct];rfl
theorem wr3 {L:Lf} (h:Gr L t) {c:Cl} (hk:c.op.kind=1\/c.op.kind=2\/c.op.kind=3) (hp:c.ph=.wr v3):preC t sq (gH L (L.s.al 2).2 (ndR L)) c/\∃L',fe t sq (gH L (L.s.al 2).2 (ndR L)) c=(L',c.done,true,[evD t c Bx])/\DA L':=by
 have hm:=ed hk sq
 obtain⟨f1,f2,f3⟩:=Y7 h hm
 have hnd:=ec h (L.s.al 2).2 (ndR L)
 have hfi:=Zx h (L.s.al 2).2 (ndR L)
 have hlat:(gH L (L.s.al 2).2 (ndR L)).lat 0=L.la:=rfl
 refine⟨?_,?_⟩
 · unfold preC;rw[hp]
   refine⟨rfl,by rw[Hi h];rfl,by rw[hfi,hlat];exact h.wr,by rw[hfi,hlat];exact h.has,?_⟩
   rw[hnd,fR (show ¬(ndR L).leaf=true from kA),cu]
   refine⟨List.Pairwise.nil,?_,f1,f2⟩
   have:DW (ndR L).msgs ((mOf c.op).num sq)=[(mOf c.op).num sq]:=congrArg Nd.msgs (cu L ((mOf c.op).num sq))
   rw[this]
   exact List.pairwise_singleton ..
 · have hw:wrS t (gH L (L.s.al 2).2 (ndR L)) ((mOf c.op).num sq) v3=(((gH L (L.s.al 2).2 (ndR L)).setN 0 {ndR L with msgs:=[(mOf c.op).num sq]}).leave 0 t 0,⟨5,false,none,0⟩,true):=by
    show (if ((gH L (L.s.al 2).2 (ndR L)).nd 0).leaf=true then _ else _:Hm×Wv×Bool)=_
    rw[hnd,hfi,fR (show ¬(ndR L).leaf=true from kA),cu]
   refine⟨_,IA hp hw rfl,?_⟩
   have hsn:(gH L (L.s.al 2).2 (ndR L)).setN 0 {ndR L with msgs:=[(mOf c.op).num sq]}=gH L (L.s.al 2).2 {ndR L with msgs:=[(mOf c.op).num sq]}:=by
    show (⟨((gH L (L.s.al 2).2 (ndR L)).M.setN 0 _).2,_,_,_⟩:Hm)=_
    unfold Mo.setN Mo.ready
    rw[Hi h];rfl
   rw[hsn]
   have hq:=O6 h f3 f2
   have hfr:=Hi h (L.s.al 2).2 {ndR L with msgs:=[(mOf c.op).num sq]}
   obtain⟨r',e1,e2,e3,e4⟩:=W4 h (L.s.al 2).2 {ndR L with msgs:=[(mOf c.op).num sq]}
   have hI0:isB 0 r'=true:=by unfold isB;rw[e2,e1];rfl
   have hfr2:((gH L (L.s.al 2).2 {ndR L with msgs:=[(mOf c.op).num sq]}).M.unpin 0).2.frI 0 2=some 0:=by
    rw[e4]
    have hf:(⟨r'::(gH L (L.s.al 2).2 {ndR L with msgs:=[(mOf c.op).num sq]}).M.fr.drop 1,[],[],0⟩:Mo).find 0=some 0:=by
     show Cp (isB 0) (r'::_)=_
     rw[Lo.Lf.fst1_cons,hI0];rfl
    show (⟨r'::(gH L (L.s.al 2).2 {ndR L with msgs:=[(mOf c.op).num sq]}).M.fr.drop 1,[],[],0⟩:Mo).frI 0 2=_
    unfold Mo.frI
    rw[hf]
    show (if r'.st=2 then some 0 else none)=_
    rw[fO e1]
   have hlk:((gH L (L.s.al 2).2 {ndR L with msgs:=[(mOf c.op).num sq]}).leave 0 t 0).look={ndR L with msgs:=[(mOf c.op).num sq]}:=by
    unfold Hm.look
    rw[show ((gH L (L.s.al 2).2 {ndR L with msgs:=[(mOf c.op).num sq]}).leave 0 t 0).M.frI 0 2=some 0 from hfr2]
    show (((gH L (L.s.al 2).2 {ndR L with msgs:=[(mOf c.op).num sq]}).M.unpin 0).2.at' 0).nd=_
    rw[e4];exact e3
   refine⟨?_,by rw[hlk];exact f3,by rw[hlk];exact f2.mono (by decide),hq.us,fun e=>?_⟩
   · show ((gH L (L.s.al 2).2 {ndR L with msgs:=[(mOf c.op).num sq]}).M.unpin 0).2.line=[]
     rw[e4]
   · rw[show ((gH L (L.s.al 2).2 {ndR L with msgs:=[(mOf c.op).num sq]}).leave 0 t 0).M.frI 0 2=some 0 from hfr2] at e;cases e
theorem Hj:∀{l:List Nat} {x:Nat},x∈l->x<=l.sum
 |y::l,x,h=>by
  rw[kF]
  rcases fq.1 h with e|e
  · omega
  · have:=Hj e;omega
inductive EnP (t:Int) (L:Lf):Nat->Hm->Wv->Prop
 |p1:L.cl=0->EnP t L 5 (eL L) (v4 1)
 |p6:L.cl=0->EnP t L 4 (eL L) (v4 6)
 |p7:L.cl=1->L.ct=t->EnP t L 3 (eL L) (v4 7)
 |p10:L.cl=2->L.ct=t->EnP t L 2 (eL L) (v4 10)
 |p3:EnP t L 1 (gH L (L.s.al 2).2 (ndR L)) v3
theorem EnP.step {L:Lf} {H:Hm} {v:Wv} (e:EnP t L n H v) (g:Gr L t) {c:Cl} (hk:c.op.kind=1\/c.op.kind=2\/c.op.kind=3) (hp:c.ph=.wr v):preC t sq H c /\
 ((∃L2 H2 v2 k,n=k+1/\fe t sq H c=(H2,{c with ph:=.wr v2},false,[])/\Gr L2 t/\EnP t L2 k H2 v2/\DA H2/\H2.may t=true)\/(∃H2,0<n/\fe t sq H c=(H2,c.done,true,[evD t c Bx])/\DA H2)):=by
 have hmay:∀{L2:Lf},Gr L2 t->(eL L2).may t=true:=fun g2=>by rw[Iz];exact g2.mayH
 cases e with
 |p1 h0 =>
  obtain⟨h1,h2⟩:=wr1 (sq:=sq) g hp
  exact⟨h1,.inl ⟨L,_,_,4,rfl,h2,g,.p6 h0,FJ g.ok,hmay g⟩⟩
 |p6 h0 =>
  obtain⟨h1,h2⟩:=wr6 (sq:=sq) g (.inl h0) hp
  have g2:=g.claim (by omega)
  exact⟨h1,.inl ⟨L.claim t,_,_,3,rfl,h2,g2,.p7 (by show L.cl+1=1;omega) rfl,FJ g2.ok,hmay g2⟩⟩
 |p7 h0 hc =>
  obtain⟨h1,h2⟩:=wr7 (sq:=sq) g (.inr hc) hp
  have g2:=g.claim (by omega)
  exact⟨h1,.inl ⟨L.claim t,_,_,2,rfl,h2,g2,.p10 (by show L.cl+1=2;omega) rfl,FJ g2.ok,hmay g2⟩⟩
 |p10 h0 hc =>
  obtain⟨h1,h2⟩:=eW (sq:=sq) g h0 hc hp
  refine⟨h1,.inl ⟨L,_,_,1,rfl,h2,g,.p3,O6 g ?_ g.fitR.2,cr g _ _⟩⟩
  unfold Et My
  show (!false&&decide (205<=2*bby []))=false
  decide
 |p3 =>
  obtain⟨h1,H2,h2,h3⟩:=wr3 (sq:=sq) g hk hp
  exact⟨h1,.inr ⟨H2,by omega,h2,h3⟩⟩
def sX (x:HM):List (Nat×Bool):=x.cs.map (fun c=>(c.nx,!c.ph.isI))
theorem Zy (m:Lo.HM):sX (eM m)=Lo.sOf m:=by
 apply gv
 intro i
 unfold sX Lo.sOf
 rw[gm,gm,Gh]
 cases m.cs[i]? with
 |none=>rfl
 |some c =>
  show some (c.nx,!(eC (i:Int) c).ph.isI)=some (c.nx,Lo.bzy c)
  rw[MO];rfl
inductive Way (ls:List (List Opn)) (nb:Nat):HM->Nat->Prop
 |lo (m:Lo.HM) (hi:Lo.Inv m) (hf:Lo.Few m) (ht:Lo.tot m<=10) (hk:∀c∈m.cs,Lo.KI c) (hs:m.L.s=st1 nb) (ord:List Nat) (hh:HI ls (Lo.sOf m) m.ev ord (Lo.mapL m.L)) (ho:m.cs.map (·.ops)=ls):Way ls nb (eM m) (Lo.mu m+1)
 |en (x:HM) (t:Nat) (c:Cl) (L:Lf) (n:Nat) (v:Wv) (ha:Alone x t c) (hp:c.ph=.wr v) (hv:EnP (t:Int) L n x.L v) (g:Gr L (t:Int)) (hk:c.op.kind=1\/c.op.kind=2\/c.op.kind=3) (hT:BX c.op=false) (hn:c.nx+1=c.ops.length) (ord:List Nat) (mp:List En) (hh:HI ls (sX x) x.ev ord mp) (ho:x.cs.map (·.ops)=ls):Way ls nb x n
 |fin (x:HM) (he:x.cs.all Cl.ended=true) (ord:List Nat) (mp:List En) (hh:HI ls (sX x) x.ev ord mp) (ho:x.cs.map (·.ops)=ls):Way ls nb x 0
theorem Way.hi (h:Way ls nb x n):∃ord mp,HI ls (sX x) x.ev ord mp:=by
 cases h with
 |lo m hi hf ht hk hs ord hh ho=>exact⟨ord,_,by rw[Zy];exact hh⟩
 |en x t c L n v ha hp hv g hk hT hn ord mp hh ho=>exact⟨ord,mp,hh⟩
 |fin x he ord mp hh ho=>exact⟨ord,mp,hh⟩
theorem Way.ops (h:Way ls nb x n):x.cs.map (·.ops)=ls:=by
 cases h with
 |lo m hi hf ht hk hs ord hh ho =>
  rw[<-ho]
  apply gv
  intro i
  rw[gm,gm,Gh]
  cases m.cs[i]?<;>rfl
 |en x t c L n v ha hp hv g hk hT hn ord mp hh ho=>exact ho
 |fin x he ord mp hh ho=>exact ho
theorem QD:∀{l:List Lo.Cl} {t:Nat} {c:Lo.Cl},l[t]?=some c->(∀c∈l,c.nx<=c.ops.length)->(l.map (·.nx)).sum+(c.ops.length-c.nx)<=(l.map (·.ops.length)).sum
 |[],t,c,h,_=>by simp at h
 |x::l,0,c,h,hl=>by
  simp at h;subst h
  have:=Lo.cnt_le (l:=l) (fun c hc=>hl c (iR _ hc))
  have:=hl x (iG ..)
  simp;omega
 |x::l,t+1,c,h,hl=>by
  have:=QD (l:=l) (t:=t) (c:=c) (by simpa using h) (fun c hc=>hl c (iR _ hc))
  have:=hl x (iG ..)
  simp;omega
theorem cw {l:List Lo.Cl} {t u:Nat} {c d:Lo.Cl} (hc:l[t]?=some c) (hd:l[u]?=some d) (hu:u≠t) (hl:∀c∈l,c.nx<=c.ops.length):(l.map (·.nx)).sum+(c.ops.length-c.nx)+(d.ops.length-d.nx)<=(l.map (·.ops.length)).sum:=by
 have hct:=hl c (hY hc)
 have h1:=Lo.cnt_set (c':={c with nx:=c.ops.length}) hc
 have h2:=Lo.tot_set (c':={c with nx:=c.ops.length}) hc rfl
 have hd2:(l.set t {c with nx:=c.ops.length})[u]?=some d:=by rw[ku (iA hu)];exact hd
 have h3:=QD hd2 (fun e he=>by
  rcases jW he with e1|e1
  · exact hl e e1
  · rw[e1];exact ga _)
 have h4:({c with nx:=c.ops.length}:Lo.Cl).nx=c.ops.length:=rfl
 omega
theorem Dt {β:Type} (f:α->β) {l:List α} {t:Nat} {c c':α} (h:l[t]?=some c) (e:f c'=f c):(l.set t c').map f=l.map f:=by
 apply gv
 intro i
 rw[gm,gm,jD]
 split
 · rename_i h1
   subst h1
   have:=(gl.1 h).1
   rw[fO this,h]
   simp[e]
 · rfl
theorem cx {t:Nat} {c':Cl} (b:Bool) (hb:(!c'.ph.isI)=b):(x.cs.set t c').map (fun c=>(c.nx,!c.ph.isI))=(sX x).set t (c'.nx,b):=by
 unfold sX
 rw[il,hb]
theorem Lo.stepC_s (t:Int) (L:Lf) (c:Lo.Cl):(Lo.fe t L c).1.s=L.s:=by
 have hp:(L.pin t).2.s=L.s:=by unfold Lf.pin;split<;>(try split)<;>rfl
 have hl:∀L1:Lf,(L1.leave t).s=L1.s:=fun L1=>by show (L1.drop t).unpin.s=_;rw[(RK _).1];rfl
 unfold Lo.fe
 split<;>(try split)<;>first|rfl|exact hp|exact hl _
theorem ee {m:Lo.HM} (hi:Lo.Inv m) {t:Nat} {c:Lo.Cl} (hc:m.cs[t]?=some c) (hp:Lo.preC (t:Int) m.L c):OpIn (m.cs.map (·.ops)) t c.nx/\Je (m.cs.map (·.ops)) t c.nx=c.op:=by
 have hop:=hi.ops c (hY hc)
 have h1:c.nx<c.ops.length:=by
  by_cases e:c.ph=.idle
  · unfold Lo.preC at hp;rw[e] at hp;exact hp.1
  · exact hop.2.2 e
 have hls:(m.cs.map (·.ops))[t]?=some c.ops:=by rw[gm,hc];rfl
 refine⟨⟨c.ops,c.op,hls,Lo.op_at h1,(hop.1 _ (Lo.op_mem h1)).2⟩,?_⟩
 unfold Je Lo.Cl.op
 rw[ju (l:=m.cs.map (·.ops)),hls];rfl
theorem Way.step (hnb:1<=nb) {x:HM} {n:Nat} (h:Way ls nb x n) (he:x.cs.all Cl.ended=false) (p:Int):x.Pre/\DA (ff x p).L/\(ff x p).pk<=x.pk+1/\∃n',n'<n/\Way ls nb (ff x p) n':=by
 cases h with
 |fin x he2 ord mp hh ho=>rw[he2] at he;cases he
 |en x t c L n v ha hp hv g hk hT hn ord mp hh ho =>
  obtain⟨h1,h2⟩:=hv.step (sq:=x.sq) g hk hp
  refine⟨ha.pre h1,?_⟩
  have hlt:=(gl.1 ha.at').1
  rcases h2 with⟨L2,H2,v2,k,hk1,e,g2,hv2,hq,hm⟩|⟨H2,h0,e,hq⟩
  · obtain⟨b1,b2,b3,b4,b5⟩:=ha.go p e (by unfold mayC;exact hm)
    refine⟨by rw[b2];exact hq,by rw[b5];exact ga _,k,by omega,.en _ t _ L2 k v2 b1 I (by rw[b2];exact hv2) g2 hk hT hn ord mp ?_ ?_⟩
    · have hs:sX (ff x p)=sX x:=by
       show (ff x p).cs.map _=_
       rw[b4]
       exact Dt (fun c:Cl=>(c.nx,!c.ph.isI)) ha.at' (by rw[hp];rfl)
      rw[hs,b3,jc];exact hh
    · rw[b4,<-ho]
      exact Dt (fun c:Cl=>c.ops) ha.at' I
  · have hend:c.done.ended=true:=by unfold Cl.ended Cl.done;show (true&&decide (c.nx+1=c.ops.length))=true;rw[jq hn];rfl
    obtain⟨b1,b2,b3,b4,b5⟩:=ha.fin p e hend
    have hls:ls[t]?=some c.ops:=by rw[<-ho,gm,ha.at'];rfl
    have hat:Je ls t c.nx=c.op:=by
     unfold Je Cl.op
     rw[ju (l:=ls),hls];rfl
    have hsx:(sX x)[t]?=some (c.nx,true):=by
     unfold sX;rw[gm,ha.at']
     show some (c.nx,!c.ph.isI)=_
     rw[hp];rfl
    have hop:OpIn ls t c.nx:=⟨c.ops,c.op,hls,op_at (by omega),by rcases hk with h|h|h<;>simp[h]⟩
    obtain⟨ord',h3⟩:=hh.step (b':=false) (nx':=c.nx+1) hsx hop (.done Bx (Bu mp (mOf c.op)) (by decide) (fun y e1 e2 e3=>W3 (by rw[e1,hat]) e3 hT (by rcases hk with h|h|h<;>rw[h]<;>decide)))
    refine⟨by rw[b2];exact hq,by rw[b5];exact ga _,0,h0,.fin _ b1 ord' (Bu mp (mOf c.op)) ?_ ?_⟩
    · have hs:sX (ff x p)=(sX x).set t (c.nx+1,false):=by
       show (ff x p).cs.map _=_
       rw[b4]
       exact cx (c':=c.done) false I
      rw[hs,b3];exact h3
    · rw[b4,<-ho]
      exact Dt (fun c:Cl=>c.ops) ha.at' I
 |lo m hi hf ht hk hs ord hh ho =>
  rw[OT] at he
  have hle:∀c∈m.cs,c.nx<=c.ops.length:=fun c hc=>(hi.ops c hc).2.1
  by_cases hS:∀c∈m.cs,Lo.Small m.L c
  · obtain⟨a1,a2,a3,a4⟩:=hi.step p hS
    obtain⟨f1,_,f3⟩:=hf.step hi p
    have est:=RM hi p
    refine⟨Wp hi,by rw[est];exact FJ a1.lok,by rw[est];exact a4,Lo.mu (Lo.ff m p)+1,by have:=a3 he;omega,?_⟩
    rw[est]
    rcases Lo.stepH_cases hi p with⟨e,hr⟩|⟨t,c,hc,h0,hpre,e⟩
    · rw[e];exact .lo m hi hf ht hk hs ord hh ho
    · have hki:=hk c (hY hc)
      obtain⟨o1,o2⟩:=ee hi hc hpre
      rw[ho] at o1 o2
      have hsx:(Lo.sOf m)[t]?=some (c.nx,Lo.bzy c):=by unfold Lo.sOf;rw[gm,hc];rfl
      obtain⟨ord',h3⟩:=hh.step hsx o1 (by rw[o2];exact Lo.evstep hi.lok hpre hki)
      have ecs:(Lo.ff m p).cs=m.cs.set t (Lo.fe (t:Int) m.L c).2.1:=by rw[e];exact Lo.client_cs hc
      have eL':(Lo.ff m p).L=(Lo.fe (t:Int) m.L c).1:=by rw[e];exact Lo.client_L hc
      have eev:(Lo.ff m p).ev=m.ev++(Lo.fe (t:Int) m.L c).2.2.2:=by rw[e];exact Lo.client_ev hc
      refine .lo _ a1 f1 (by rw[f3];exact ht) (fun d hd=>?_) (by rw[eL',Lo.stepC_s];exact hs) ord' ?_ ?_
      · rw[ecs] at hd
        rcases jW hd with e1|e1
        · exact hk d e1
        · rw[e1];exact hki.step _ _
      · have hs2:Lo.sOf (Lo.ff m p)=(Lo.sOf m).set t ((Lo.fe (t:Int) m.L c).2.1.nx,Lo.bzy (Lo.fe (t:Int) m.L c).2.1):=by
         unfold Lo.sOf;rw[ecs,il]
        rw[hs2,eev,eL'];exact h3
      · rw[ecs,<-ho]
        exact Dt (fun c:Lo.Cl=>c.ops) hc (Lo.stepC_ops _ _ _)
  · obtain⟨c,hc⟩:∃c,¬(c∈m.cs->Lo.Small m.L c):=Classical.not_forall.1 hS
    obtain⟨hcm,hns⟩:c∈m.cs/\¬Lo.Small m.L c:=⟨kD (fun h=>hc (fun h2=>absurd h2 h)),fun h=>hc (fun _=>h)⟩
    obtain⟨t,hct⟩:=jK.1 hcm
    obtain⟨h3,h4⟩:c.ph=.wr 3/\¬(m.L.r.st=2->Cd (Lo.lfd (Bu (Lo.lfe m.L) (mOf c.op)))=true\/(m.L.s.left<2/\2<=m.L.r.nd.es.length)):=⟨kD (fun h=>hns (fun h2=>absurd h2 h)),fun h=>hns (fun _=>h)⟩
    obtain⟨h2,h5⟩:m.L.r.st=2/\¬(Cd (Lo.lfd (Bu (Lo.lfe m.L) (mOf c.op)))=true\/(m.L.s.left<2/\2<=m.L.r.nd.es.length)):=⟨kD (fun h=>h4 (fun h2=>absurd h2 h)),fun h=>h4 (fun _=>h)⟩
    have hnf:¬Cd (Lo.lfd (Bu (Lo.lfe m.L) (mOf c.op)))=true:=fun h=>h5 (.inl h)
    obtain⟨es,e,hr,hfit⟩:=hi.lok.nd h2
    have hes:Lo.lfe m.L=es:=by unfold Lo.lfe;rw[e];rfl
    have hmp:Lo.mapL m.L=es:=by rw[Lo.mapL_at h2,hes]
    have h9:9<=es.length:=by
     refine kD (fun h=>hnf ?_)
     rw[hes]
     exact RO hfit hr (by omega) c.op
    have hcnt:9<=(m.cs.map (·.nx)).sum:=by
     have:(Lo.mapL m.L).length<=Lo.cnt m:=hf
     rw[hmp] at this
     exact gF h9 this
    have htot:(m.cs.map (·.ops.length)).sum<=10:=ht
    have hnx:=(hi.ops c hcm).2.2 (by rw[h3];simp)
    have hone:=QD hct hle
    have hoth:∀(u:Nat) (d:Lo.Cl),m.cs[u]?=some d->u≠t->d.ended=true:=fun u d hd hu=>by
     have h6:=cw hct hd hu hle
     have h7:=hle d (hY hd)
     have h8:d.nx=d.ops.length:=by omega
     have h10:d.ph=.idle:=kD (fun h=>by have:=(hi.ops d (hY hd)).2.2 h;omega)
     unfold Lo.Cl.ended;rw[jq h10,jq h8];rfl
    have hmay:Lo.mayC (t:Int) m.L c=true:=by
     obtain⟨u,d,hd,hm⟩:=hi.toInv0.goes he
     by_cases hu:u=t
     · subst hu;rw[hct] at hd;cases hd;exact hm
     · have h6:=hoth u d hd hu
       unfold Lo.Cl.ended at h6
       simp only[gQ,ia] at h6
       unfold Lo.mayC at hm
       rw[h6.1] at hm
       simp[h6.2] at hm
    obtain⟨hpre,hmh⟩:=hi.toInv0.pre hct hmay
    have hmh:=hmh (by rw[h3];simp)
    have hpre3:=hpre
    unfold Lo.preC at hpre3
    rw[h3] at hpre3
    have htk:=Qc hi hct
    have hleft:¬m.L.s.left<2:=fun h=>h5 (.inr ⟨h,by rw[e];show 2<=es.length;omega⟩)
    have hki:=hk c hcm
    obtain⟨k1,k2⟩:=hki (by rw[h3];simp)
    have hk4:c.op.kind≠4:=fun h=>by obtain⟨a,ha⟩:=k2.2 h;rw[h3] at ha;cases ha
    have hkk:=((hi.ops c hcm).1 _ (Lo.op_mem hnx)).2
    have hcl0:m.L.cl=0:=hi.cl0 (fun u d hd a ha=>by
     by_cases hu:u=t
     · subst hu;rw[hct] at hd;cases hd;rw[h3] at ha;cases ha
     · have h6:=hoth u d hd hu
       unfold Lo.Cl.ended at h6
       simp only[gQ,ia] at h6
       rw[h6.1] at ha;cases ha)
    have g:Gr m.L (t:Int):=⟨hi.lok,htk,h2,hpre3.2.1,hi.ld0 (by rw[h2];decide),fun hq=>by
     obtain⟨y,hy,hy2⟩:=gj.1 hq
     obtain⟨y1,y2⟩:=y
     have:y1=(t:Int):=hy2
     subst this
     exact Lo.may_q hmh y2 hy,by
     obtain⟨k,hk3⟩:=TM hnb (by rw[<-hs];exact hleft)
     exact⟨k,by rw[hs,hk3]⟩,by omega,by rw[e];show 2<=es.length;omega⟩
    have hal:Alone (eM m) t (eC (t:Int) c):=⟨⟨by rw[Wm];exact hi.n8,by rw[Wm];exact hi.tn,hi.tl,fun i hin=>by rw[Zu];exact hi.told i hin⟩,by rw[Gh,hct];rfl,fun u d hd hu=>by
     rw[Gh] at hd
     cases hx:m.cs[u]? with
     |none=>rw[hx] at hd;cases hd
     |some d0=>rw[hx] at hd;cases hd;rw[HY];exact hoth u d0 hx hu,by rw[show (eM m).L=eL m.L from rfl,Wo];exact hmay⟩
    have hst:Lo.fe (t:Int) m.L c=(m.L,{c with ph:=.rm 1},false,[]):=by
     have hgen:∀c':Lo.Cl,c'.ph=.wr 3->¬Cd (Lo.lfd (Bu (Lo.lfe m.L) (mOf c'.op)))=true->Lo.fe (t:Int) m.L c'=(m.L,{c' with ph:=.rm 1},false,[]):=fun c' h hn=>by
      obtain⟨ops,nx,ph⟩:=c'
      dsimp only at h
      subst h
      show (if Cd (Lo.lfd (Bu (Lo.lfe m.L) (mOf (Lo.Cl.op ⟨ops,nx,.wr 3⟩))))=true then _ else _)=_
      rw[fR hn]
     exact hgen c h3 hnf
    have hse:=Wl (sq:=(eM m).sq) htk hi.lok hpre (fun _=>hmh)
    rw[hst] at hse
    have hcop:(eC (t:Int) c).op=c.op:=rfl
    obtain⟨b1,b2,b3,b4,b5⟩:=hal.go p hse (by
     show mayC (t:Int) (eL m.L) _=true
     unfold mayC
     show (eL m.L).may (t:Int)=true
     rw[Iz];exact hmh)
    refine⟨hal.pre (Zt htk hi.lok hpre (fun _=>hmh)),by rw[b2];exact FJ hi.lok,by rw[b5];exact ga _,5,?_,.en _ t _ m.L 5 (v4 1) b1 I (by rw[b2];exact .p1 hcl0) g ?_ ?_ ?_ ord (Lo.mapL m.L) ?_ ?_⟩
    · have:5<=Lo.muC c:=by unfold Lo.muC;rw[fR (by rw[h3];simp),h3];show 5<=_+5;omega
      have hmem:Lo.muC c<=Lo.mu m:=by
       unfold Lo.mu
       exact Hj (gj.2 ⟨c,hcm,rfl⟩)
      omega
    · show c.op.kind=1\/c.op.kind=2\/c.op.kind=3
      rcases hkk with h|h|h|h
      · exact .inl h
      · exact .inr (.inl h)
      · exact .inr (.inr h)
      · exact absurd h hk4
    · exact k1
    · show c.nx+1=c.ops.length
      omega
    · have hs2:sX (ff (eM m) p)=sX (eM m):=by
       show (ff (eM m) p).cs.map _=_
       rw[b4]
       exact Dt (fun c:Cl=>(c.nx,!c.ph.isI)) hal.at' (by show (c.nx,!(Ph.wr _).isI)=(c.nx,!(eC (t:Int) c).ph.isI);rw[MO,h3];rfl)
      rw[hs2,b3,jc,Zy];exact hh
    · rw[b4,<-ho]
      refine (Dt (fun c:Cl=>c.ops) (c':=eC (t:Int) {c with ph:=.rm 1}) hal.at' I).trans ?_
      apply gv
      intro i
      rw[gm,gm,Gh]
      cases m.cs[i]?<;>rfl
theorem Way.begin {nf fl:Nat} (h1:1<=nb) (h5:5<=nf) (h8:ls.length+(fl+1)<=8) (hok:∀l∈ls,∀o∈l,o.key.size<=9223372036854775807/\(o.kind=1\/o.kind=2\/o.kind=3\/o.kind=4)) (ht:(ls.map List.length).sum<=10):∃n,n<=2000/\Way ls nb (hmS nb nf fl ls) n:=by
 have hcs:(Lo.hmS nb nf fl ls).cs=ls.map Lo.cl0:=rfl
 refine⟨Lo.mu (Lo.hmS nb nf fl ls)+1,?_,?_⟩
 · have h24:∀l∈ls,l.length<=24:=fun l hl=>by
    have:l.length<=(ls.map List.length).sum:=Hj (gj.2 ⟨l,hl,rfl⟩)
    omega
   have:=Lo.mu_le h24
   have e:Lo.mu (Lo.hmS nb nf fl ls)=((ls.map Lo.cl0).map Lo.muC).sum:=rfl
   omega
 · rw[<-Wx (by omega)]
   have hm:Lo.mapL (Lo.hmS nb nf fl ls).L=[]:=rfl
   refine .lo _ (Lo.hmS_inv h1 h5 h8 hok) (Lo.hmS_few _ _ _ _) ?_ (fun c hc=>?_) I [] (HI.nil _ (fun q hq=>?_)) ?_
   · show ((ls.map Lo.cl0).map (·.ops.length)).sum<=10
     rw[ik];exact ht
   · rw[hcs] at hc
     obtain⟨l,_,rfl⟩:=gj.1 hc
     exact fun h=>absurd I h
   · unfold Lo.sOf at hq
     rw[hcs] at hq
     obtain⟨c,hc,rfl⟩:=gj.1 hq
     obtain⟨l,_,rfl⟩:=gj.1 hc
     rfl
   · rw[hcs,ik]
     exact List.map_id' _
structure FiR where
 vc:Value
 C:List Ca
 r:FdR
abbrev cy (ops:List (List Opn)) (ev:List Evt) (s:FiR):Prop:=(s.C=BE ops ev\/s.C=[])/\(s.r.ok=false->¬Comp s.C (List.replicate s.C.length false) [])/\(s.r.ok=true->LV s.C (List.replicate s.C.length false) [] s.r.ord)
theorem HI.found {ops:List (List Opn)} {ev:List Evt} {m:List En} (h:HI ops s ev ord m) {q:FiR} (hq:cy ops ev q):q.r.ok=true:=by
 cases hx:q.r.ok with
 |true=>rfl
 |false =>
  refine absurd ?_ (hq.2.1 hx)
  rcases hq.1 with e|e
  · rw[e];exact h.comp
  · rw[e];exact .over rfl
theorem HI.few {ops:List (List Opn)} {ev:List Evt} {m:List En} (h:HI ops s ev ord m) {k:Nat} (hs:(s.map (fun p=>p.1+if p.2=true then 1 else 0)).sum<=k):(BE ops ev).length<=k:=by rw[h.len];exact hs
theorem cz {m:HM} (k:HOk z m B):((sX m).map (fun p=>p.1+if p.2=true then 1 else 0)).sum<=(m.cs.map (fun c=>c.ops.length)).sum:=by
 unfold sX
 have key:∀l:List Cl,(∀c∈l,c.nx<=c.ops.length/\(c.ph.isI=false->c.nx<c.ops.length))->((l.map (fun c=>(c.nx,!c.ph.isI))).map (fun p=>p.1+if p.2=true then 1 else 0)).sum<=(l.map (fun c=>c.ops.length)).sum:=fun l=>by
  induction l with
  |nil=>intro _;exact ga _
  |cons c l ih =>
   intro h
   have h1:=ih (fun d hd=>h d (iR _ hd))
   have h2:=h c (iG ..)
   simp only[gB,kF]
   cases hx:c.ph.isI with
   |true=>simp at h1 ⊢;omega
   |false=>have:=h2.2 hx;simp at h1 ⊢;omega
 exact key m.cs (fun c hc=>⟨(k.ol c hc).2.1,(k.ol c hc).2.2⟩)
theorem Y8 {m:HM} (hk:HOk z m B) (hB:B<=60000) {b:OpsR} {n nb nf fl:Nat} (h4:n<=4) (hl:∀o∈b.ops n,o.length<=1000) (hev:TD (b.ops n) m.ev) (h12:(BE (b.ops n) m.ev).length<=12) (hcok:∀c∈BE (b.ops n) m.ev,O1 c):Con prog 16 [ptV z.bH,.agg (cfC nb nf fl b.vo).toArray] (fun _=>True) (b.H n++HC.H z m) (fun s:FiR=>.tuple #[s.vc,s.r.v,.bool s.r.ok]) (fun s=>cy (b.ops n) m.ev s) (fun s=>Az s.vc 60 Ca.enc s.C::Az s.r.v 3 (AG .i64) (nI2 s.r.ord)::(b.H n++HC.H z m)):=by
 intro w hE hH
 refine Ey func16 I hH ?_
 refine Cs I (l_e I (AQ I I I I (fun bc=>Ce (cfC nb nf fl b.vo) I (Las I (Las I (Ak I (Ag (Do8 [0,2,3,1,4,5] 675 (fun w2=>(Ad bc 27 (cfC nb nf fl b.vo)).at w2) I St.drawn (Hat 0 I) (Dm I (Dfa U27 I Z25 I (Dq I (Ao I isAgg25 I Ih I) (d_e I (Ee (Ad bc 27 (cfC nb nf fl b.vo)::b.H n) (MM hk) I call15 Tt (fun ve _=>Pre.world (St w _ ((Az ve 71 Evt.enc m.ev::(Ad bc 27 (cfC nb nf fl b.vo)::b.H n))++HC.H z m)) (fun _ h=>h.perm jm) ?_))))))))))))))
 refine Aj (Hat 1 I) (d_t I (AX (TE m.ev (b.vs n) (b.ops n) (by have:=hk.ev;omega) (by rw[b.olen h4];omega) (fun o ho=>gF (hl o ho) (by decide)) hev) I I I call29 I (fun _ h=>⟨h.rd 0 rfl,RW h (fun e he=>iR _ (iR _ (gi _ he)))⟩) ?_))
 intro vq _
 obtain⟨vc,b0⟩:=vq;dsimp only;obtain⟨C,hC⟩:∃C,C=(if b0=true then Bj (b.ops n) m.ev m.ev.length else []):=⟨_,rfl⟩;rw[<-hC]
 refine d_t I (e_q I I (AE I I) (AK (Kt (Cs I (Lm I ?_)))))
 have hC2:C=BE (b.ops n) m.ev\/C=[]:=by cases b0 with|true=>exact .inl hC|false=>exact .inr hC
 have hC12:C.length<=12:=hC2.elim (fun e=>by rw[e];exact h12) (fun e=>by rw[e];exact gb _)
 have hCk:∀c∈C,O1 c:=hC2.elim (fun e=>by rw[e];exact hcok) (fun e=>by rw[e];intro c hc;cases hc)
 refine l_e I (H7 (O5 C hC12 hCk) I I I call46 I Tt (fun q hq=>Lm I (Lq I (Qx I) (Lq I (Qx I) (Las I (Ak I (Cs I (Lm I (Lm I (Lm I (Las I (Las I (Ak I (Af (AV (Av (AV (Av (AM (Be (rs:=[.tmp 4,.tmp 5,.tmp 6]) I I ?_))))))))))))))))))))
 exact fun _ h=>⟨(⟨vc,C,q⟩:FiR),rfl,⟨hC2,hq.1,hq.2.1⟩,h⟩
theorem CfOk.sum {r:CfR} (h:CfOk k r):((r.b.ops r.n).map List.length).sum<=k:=by
 have hlen:=h.len
 have h1:=h.n1
 have h4:=h.n4
 unfold OpsR.ops
 match r.n,h1,h4 with
 |1,_,_=>simp;omega
 |2,_,_=>simp;omega
 |3,_,_=>simp;omega
 |4,_,_=>simp;omega
theorem CfOk.kinds {r:CfR} (h:CfOk k r):∀l∈r.b.ops r.n,∀o∈l,o.key.size<=9223372036854775807/\(o.kind=1\/o.kind=2\/o.kind=3\/o.kind=4):=fun l hl o ho=>by
 have hg:OpG o:=by
  rcases OpsR.mem hl with e|e|e|e
  · exact h.ok o (.inl (e▸ho))
  · exact h.ok o (.inr (.inl (e▸ho)))
  · exact h.ok o (.inr (.inr (.inl (e▸ho))))
  · exact h.ok o (.inr (.inr (.inr (e▸ho))))
 obtain⟨a,b,c⟩:=hg
 exact⟨by omega,by omega⟩
theorem Way.sum (h:Way ls nb x n):(x.cs.map (fun c=>c.ops.length)).sum=(ls.map List.length).sum:=by
 rw[<-h.ops,ik];rfl
theorem Way.calls (h:Way ls nb x n) (h10:(ls.map List.length).sum<=10) {z:HC} {B:Nat} (k:HOk z x B):TD ls x.ev/\(BE ls x.ev).length<=12/\(∀c∈BE ls x.ev,O1 c)/\∀q:FiR,cy ls x.ev q->q.r.ok=true:=by
 obtain⟨ord,mp,hh⟩:=h.hi
 have h1:=cz k
 rw[h.sum] at h1
 exact⟨hh.evk,by have:=hh.few (gF h1 h10);omega,hh.cok,fun q hq=>hh.found hq⟩
theorem QE {vp:Value} (v:Int) (xs picks:List Int) (hpl:picks.length<=9223372036854775807):Con prog 3 [.int .i64 v,va,vp] (fun w=>RdV w va (AG .i64) xs/\RdV w vp (AG .u8) picks) [] (fun _:Unit=>.bool true) (fun _=>True) (fun _=>[]):=by
 intro w hE hH
 obtain⟨hl,hp⟩:=hE
 refine E0 func3 I hH ?_
 refine Ag ?_
 obtain⟨j,hj⟩:∃j:Nat,j=min xs.length 10:=⟨_,rfl⟩
 refine Cr I (Ak I (Cs I (Lm I (Lm I (Lm I (Lq I (AL I U22 I (fun _ h=>hl.keep h (by simp[dom]))) (Lq I (cQ I I I) (Sv' 20 (.int .i64 (j:Int)) I (congrArg (Value.int .i64) (by split<;>omega)) (Lq I (Fg j I U22 Z3 I (fun _ h=>hl.keep h (by simp[dom])) I I (by omega)) (l_e I (BV (W2 v (xs.take j)) I I I call11 I (fun _ h=>by have:=CF (hl.keep h (by simp)) (lo:=0) (hi:=j) (gb _) (by omega);rwa[fV] at this) ?_)))))))))))
 rintro s0 ⟨hcf,hz⟩
 obtain⟨z,⟨nb,nf,f,n,b⟩⟩:=s0
 refine Pre.world (St w [] (b.H n++HC.H z (hmS nb nf f (b.ops n)))) (fun _ h=>by rw[jc] at h;exact h) ?_
 refine Pre.fact (fun _ h=>B0 (h.at 0 I)) ?_
 rintro⟨va3,vc3,hvo⟩
 have hcf2:=hcf
 obtain⟨h1n,h4n,hf3,hnf1,hnf2,hnb1,hnb2,_,_⟩:=hcf2
 dsimp only at h1n h4n hf3 hnf1 hnf2 hnb1 hnb2
 have hone:∀v∈cfC nb nf f b.vo,v.oneCell'=true:=by rw[hvo];exact II _ _ _ _ _ _
 have hkk:min (xs.take j).length 12<=10:=by rw[fJ];omega
 have h10:((b.ops n).map List.length).sum<=10:=gF hcf.sum hkk
 have hlen4:=b.olen h4n
 obtain⟨N0,hN0,hW0⟩:∃N,N<=2000/\Way (b.ops n) nb (hmS nb nf f (b.ops n)) N:=Way.begin hnb1 (by omega) (by omega) hcf.kinds h10
 refine Lm I (Lq I (Qx I) (Lq I (Qx I) (l_e I (Au I I I zeroValue27 (fun bc=>Ce [.int .i64 0,.int .i64 0,.int .i64 0,.slice none 0 0] I (Las I (l_e I (SA Z27 I hone (Ce (cfC nb nf f b.vo) I (Ns (Cs I (Lm I (Lq I (DZ I underlying24 I I) (Nk (Sb 26 false I (I) (Ab I (Ae (Kt (Cs I (Ak I (Ag (Cs I (Ak I (Al ?_))))))))))))))))))))))))
 refine L7 (fun (i:Nat) (z:HC) (m:HM) (q:Nat) (N:Nat)=>[(2,vp),(7,ptV z.bH),(8,ptV bc),(9,.int .i64 (q:Int)),(10,.int .i64 (i:Int))]) (fun (i:Nat) (z:HC) (m:HM) (q:Nat) (N:Nat)=>St w [] ((Ad bc 27 (cfC nb nf f b.vo)::b.H n)++HC.H z m)) (fun (i:Nat) (z:HC) (m:HM) (q:Nat) (N:Nat)=>Way (b.ops n) nb m N/\HOk z m (2*i)/\m.pk<=i/\N+i<=2000) (fun (i:Nat) (z:HC) (m:HM) (q:Nat) (N:Nat)=>8000-i) (0) (z) ((hmS nb nf f (b.ops n))) (0) (N0) ⟨hW0,hz,gb _,by omega⟩ (Si I) Ih (fun i z m q N hpp=>Ag (Ag ?_))
 obtain⟨hW,hk,hpk,hNi⟩:=hpp
 refine Cr I (Lm I (Lq I (Ql I) (Lm I (St' 29 I (by omega) (Lm I (l_e I (Ee (Ad bc 27 (cfC nb nf f b.vo)::b.H n) (Qa hk) I call12 Tt (fun _ _=>Pw (St w _ ((Ad bc 27 (cfC nb nf f b.vo)::b.H n)++HC.H z m)) ?_))))))))
 refine Lq I (Qt I) (Lq I (Qy I) (Nk ?_))
 refine CB 33 I (fun hend=>?_) (fun hend=>?_)
 · refine Ai I (Ae (Ks (Al (Cs I (Lm I (Lm I (Lm I (Lm I (l_e I (Ee (Ad bc 27 (cfC nb nf f b.vo)::b.H n) (dP hk picks hpl i (by omega)) I call14 (fun _ h=>hp.keep h (by simp)) (fun pk _=>Pw (St w _ ((Ad bc 27 (cfC nb nf f b.vo)::b.H n)++HC.H z m)) ?_)))))))))))
   obtain⟨hPre,hQ,hpk2,N2,hN2,hW2⟩:=hW.step hnb1 hend pk
   refine l_e I (Ee (Ad bc 27 (cfC nb nf f b.vo)::b.H n) (HX hk (by omega) (by omega) hPre pk hQ) I call13 Tt ?_)
   rintro y ⟨hy1,hy2⟩
   refine Pw (St w _ ((Ad bc 27 (cfC nb nf f b.vo)::b.H n)++HC.H y (ff m pk))) ?_
   refine Nk (Cs I (Lm I (Sv' 7 (ptV y.bH) I (by rw[hy1]) (Sv' 42 (ptV y.bH) I (by rw[hy1]) (l_e I (Ee (Ad bc 27 (cfC nb nf f b.vo)::b.H n) (MM hy2) I call15 Tt (fun ve _=>Pre.world (St w _ ((Az ve 71 Evt.enc (ff m pk).ev::(Ad bc 27 (cfC nb nf f b.vo)::b.H n))++HC.H y (ff m pk))) (fun _ h=>h.perm jm) ?_)))))))
   refine Lq I (AL I U34 I (Hrd 0 I)) (Ak I (Cs I (Lm I (Lm I (Lq I (Qn I) (Nk (Av ?_)))))))
   obtain⟨k1,k2,k3,k4⟩:=hW2.calls h10 hy2
   refine CB 47 I (fun hne=>?_) (fun hne=>?_)
   · refine Ai I (Cs I (Lm I (Ak I (Cs I (Lm I (Lq I (Cq _ G27 Z27 0 I I I) (l_e I (Ee [Ad bc 27 (cfC nb nf f b.vo)] (Y8 hy2 (by omega) h4n (fun o ho=>by have:=(hcf.each ho).1;omega) k1 k2 k3) I call16 Tt ?_))))))))
     intro q2 hq2
     have hok:=k4 q2 hq2
     refine Pw (St w _ (Ad bc 27 (cfC nb nf f b.vo)::Az q2.vc 60 Ca.enc q2.C::Az q2.r.v 3 (AG .i64) (nI2 q2.r.ord)::(b.H n++HC.H y (ff m pk)))) ?_
     refine Lm I (Lq I (Qx I) (Lq I (Qx I) (Lq I (Qx I) (Las I (Las I (Ak I (Cs I (Lm I (Lq I (Qt I) (Nk (AM (Av (AM (Av (Sb 57 false I (by rw[hok];rfl) (Ab I (Ae (Aw (Kt (Cr I (Lm I (Lq I (Qi I (by omega)) (Las I ?_)))))))))))))))))))))))
     refine AB ?_
     exact AD ((i+1,y,(ff m pk),(ff m pk).ev.length,N2)) (by dsimp only;omega) ⟨hW2,hy2,gF hpk2 (Nat.add_le_add_right hpk 1),by dsimp only;omega⟩ (Si I) (fun _ h=>h)
   · refine Ab I (Ae (Aw (Kt (Cr I (Lm I (Lq I (Qi I (by omega)) (Las I (AB ?_))))))))
     exact AD ((i+1,y,(ff m pk),q,N2)) (by dsimp only;omega) ⟨hW2,hy2,gF hpk2 (Nat.add_le_add_right hpk 1),by dsimp only;omega⟩ (Si I) (fun _ h=>h)
 · refine Ab I (AO (Ac (Ac (Ar (Kt (Cs I (Lm I (l_e I (Ee (Ad bc 27 (cfC nb nf f b.vo)::b.H n) (Qa hk) I call12 Tt (fun _ _=>Pw (St w _ ((Ad bc 27 (cfC nb nf f b.vo)::b.H n)++HC.H z m)) ?_))))))))))
   refine Lm I (Sb 60 true I (by rw[hend]) (l_e I (E1 (Qd) I call17 Tt (fun _ _=>Lq I (Qy I) (Ak I (Af (An I I ?_)))))))
   exact fun _ h=>⟨(),rfl,trivial,h.e8⟩
theorem W5 (l:List Int):(AG .i64).flat l=l.map (.int .i64):=K5 (AG .i64) (Value.int .i64) (fun _=>rfl) l
theorem topLines_walk (w:World) (a0:Int) (w0:(Lit.int .i64 a0).wf=true) (A1:Option Addr) (c1:Nat) (z1:List Int) (rd1:Rd w w.heap.size A1 (z1.map (.int .i64))) (l1:z1.length<=c1) (m1:c1<=maxLen) (w1:∀z∈z1,(Lit.int .i64 z).wf=true) (A2:Option Addr) (c2:Nat) (z2:List Int) (rd2:Rd w w.heap.size A2 (z2.map (.int .u8))) (l2:z2.length<=c2) (m2:c2<=maxLen) (w2:∀z∈z2,(Lit.int .u8 z).wf=true) :
 Calls prog 3 #[.int .i64 a0,.slice A1 z1.length c1,.slice A2 z2.length c2] w fun e w'=>e=.returned (.bool true)/\Below w.heap.size w w':=by
 rw[<-W5] at rd1
 rw[<-Gu] at rd2
 exact T9 (QE a0 z1 z2 (gF l2 (gF m2 (ga _)))) ⟨T7 rd1 l1,T7 rd2 l2⟩
end Go.Proofs.YtloldofjddbjoaaGreat
