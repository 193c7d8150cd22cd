/- Part 6 of the proof. No condition. -/
import Derived.Test.YtloldofjddbjoaaGreatQ5
set_option linter.unusedVariables false
set_option linter.unusedSimpArgs false
set_option maxHeartbeats 8000000
set_option maxRecDepth 100000
namespace Go.Proofs.YtloldofjddbjoaaGreat
open Go.Sep Go.RowKit Tryz
variable {x:HQ} {B:Nat} {t:Int} {m:Ms}
theorem gg (bH bt:Nat) (vh vT vO vE:Value) (sq pk:Int) (ev:List Evt) (hev:ev.length<=59999) (b nx:Nat) (hnx:nx<=1000) (t:Int) (vo:Value) (ops:List Opn) {o:Opn} (hop:ops[nx]?=some o) (hol:ops.length<=1000) (hk9:o.key.size<=9223372036854775807) (hkd:o.kind=1\/o.kind=2\/o.kind=3\/o.kind=4):Con prog 81 [ptV bH,.int .i64 t,ptV b] Tr [HSE bH vh bt vT vO vE sq pk,AA vE 71 Evt.enc ev,CLE b vo nx [.pointer none,.pointer none],AA vo 43 Opn.enc ops] (λr:Value×Nat=>.tuple #[]) Tr (λr=>[HSE bH vh bt vT vO r.1 sq pk,AA r.1 71 Evt.enc (ev++(bgR t nx o).2.1),CLE b vo (bgR t nx o).1 ((bgR t nx o).2.2 r.2).1,AA vo 43 Opn.enc ops]++((bgR t nx o).2.2 r.2).2):=by
 intro w hE hH
 have hnl:=(lR.1 hop).1
 refine Ey func81 I hH ?_
 refine Af (Do8 (rg 16) 42160986 (λw2=>(HSE bH vh bt vT vO vE sq pk).at w2/\(CLE b vo nx [.pointer none,.pointer none]).at w2) I St.drawn (H2 0 2 I) (Md 3 I (Dfa Cn I Z34 I (Dq I (Al I isAgg34 I (λ_ h=>h.1) I) (Md 3 I (Dfa Dj I Z3 I (Dq I (Al I G3 I (λ_ h=>h.2) I) (Dq I (AP (Evt.c (⟨t,(nx:Int),false,BC⟩:Evt)) I I (λw=>by kernel_rfl)) (d_e I (Ax (sz:=22) [.tmp 20] I I I I I U34 Z71 I zeroValue71 (by simp[Value.cells,Evt.ko]) (λb2=>Ai (H2 1 3 I) (AX (d_e I (Ap U34 U34 Re I (λ_ h=>AY (h.at 1 I) Evt.enc [(⟨t,(nx:Int),false,BC⟩:Evt)] I I) (by simp only[lp,kQ,ob];omega) (λv2=>AM (Av (Ai (H2 1 2 I) (d_t I (e_q I I (Bw I I) (d_t I (e_q I I (Ba I Cn I Z34 I I) (Pre.fact (λ_ h=>BW (h.at 0 I)) ?_))))))))))))))))))))))
 rintro⟨av,cv,hv2⟩
 refine AM (d_t I (AG I I Z34 I I (by rw[hv2];rfl) (ng I) (Ce [vh,ptV bt,vT,vO,v2,.int .u64 sq,.int .i64 pk] I (AL (Ks (Do8 (rg 12) 413343 (λw2=>(CLE b vo nx [.pointer none,.pointer none]).at w2/\RdV w2 vo Opn.enc ops) I St.drawn (Hb 2 3 I) (Md 2 I (Dfa Dj I Z40 I (Dq I (Al I G40 I (λ_ h=>h.1) I) (Md 2 I (Dfa Dj I Z3 I (Dq I (Al I G3 I (λ_ h=>h.1) I) (Dq I (Ar nx I U40 Z43 I (λ_ h=>h.2) I I) (Dq I (AV nx I G43 Z43 I I (λ_ h=>h.2) hop) (d_e I (Au I I I zeroValue43 (λbo=>Ce [.int .i64 0,.string ⟨#[]⟩,.string ⟨#[]⟩,.int .u64 0] I (Ai (Hb 3 4 I) (d_t I (Az I I Z43 I I I (Opn.one o) (by show 0+4<=4;decide) (Ce (Opn.c o) (Sep.ku I) (AL (Kt (Cs I (Lfa U43 I Z9 I (Lo G9 0 I ?_))))))))))))))))))))))))))
 by_cases hk8:o.key.size<=8
 .refine l_e I (E1 (S3 o.key hk9) I call125 Tt (λ_ _=>Sv' 38 (.tuple #[.agg (kOf o).c.toArray,.int .i64 0]) I (by first|(rw[dif_pos hk8];rfl)|(unfold kOf;rw[dif_pos hk8,dif_pos hk8])) (Mv 3 I (l_e I (Au I I I zeroValue77 (λbk=>Ce (kv0 8).c I (l_e I (Az I I Z77 I I (Kv.ko _) (Kv.one _) (by simp only[Kv.ko];decide) (Ce (kOf o).c (Sep.ku (by simp only[Kv.ko])) (Ak I (Cs I (Lfa U43 I Z3 I (Lo G3 1 I (Lq I (Cq ((kOf o).c) G77 Z77 0 I (Bb _) (Kv.ko _)) (Lq I (AP (Ms.c (m0 o)) I I (XX o.kind o.wk (kOf o))) (l_e I (Au I I I zeroValue154 (λbm=>Ce ms0.c I (l_e I (Az I I Bl I I (Ms.ko _) (Ms.one _) (by simp only[Ms.ko];decide) (Ce (Ms.c (m0 o)) (Sep.ku (by simp only[Ms.ko])) (Ns (Cs I (Lfa U43 I Z3 I (Lo G3 2 I (Mv 2 I ?_))))))))))))))))))))))))))
  rcases hkd with hkd|hkd|hkd|hkd
  .by_cases hv16:o.val.size<=16
   .refine Sb 48 true I (by first|rfl|(rw[hkd];rfl)|exact oc hk1|exact oc hk3) (Mv 3 I (Nk (Sb 51 true I (by first|rfl|(rw[hkd];rfl)|exact oc hk1|exact oc hk3) (Ah I (Cr I (Lfa U43 I Z9 I (Lo G9 2 I (l_e I (E1 (aj o.val hv16) I call126 Tt (λ_ _=>Lm I (Mv 2 I (Lfa B8 I Z56 I (l_e I (Az I I Z56 I I (Kv.ko _) (Kv.one _) (by rw[Kv.ko,Ms.ko];decide) (AR (Ms.set_val _ _) (Ak I (Af (Cs I (Lfa U43 I Z3 I (Lo G3 2 I (Lq I (Qe I) (Nk (Sb 61 false I (by first|rfl|(rw[hkd];rfl)|exact oc hk1|exact oc hk3) (Aa I (Ae (Kt (Aj (Cs I (Mv 2 I (Ak I (Sb 71 false I (by first|rfl|(rw[hkd];rfl)|exact oc hk1|exact oc hk3) ?_)))))))))))))))))))))))))))))))
    refine Aa I (Cs I (Lfa U43 I Z3 I (Lo G3 2 I (Lq I (Qe I) (Ak I (Sb 80 false I (by first|rfl|(rw[hkd];rfl)|exact oc hk1|exact oc hk3) (Aa I (Cr I (Mv 2 I (Lq I (Cq (((m0 o).setVal (vof o.val hv16)).c) Cm Bl 0 I (Br _) (Ms.ko _)) (l_e I (AZ (X0 t ((m0 o).setVal (vof o.val hv16))) I I I call128 I Tt (λbw _=>Lc I (Lfa Dj I Gp I ?_))))))))))))))
    rw[show ((m0 o).setVal (vof o.val hv16))=mOf o from by rw[Ty hkd,gb hv16]] 
    exact Ed (l_e I (AG I I Gp I I I (ng I) (Ce [vo,.int .i64 (nx:Int),.pointer none,ptV bw] I (AB (Aw (Bp (Pm [3,2,2,2,2,0,1] I (Av (Av (Av (BB I (λ_ h=>⟨(v2,bw),rfl,T0,by rw[bO (by unfold BH;rw[od hk8,hkd];simp[hv16]) hkd];exact h⟩))))))))))))
   .refine Sb 48 true I (by first|rfl|(rw[hkd];rfl)|exact oc hk1|exact oc hk3) (Mv 3 I (Nk (Sb 51 true I (by first|rfl|(rw[hkd];rfl)|exact oc hk1|exact oc hk3) (Ah I (Cr I (Lfa U43 I Z9 I (Lo G9 2 I (l_e I (E1 (eZ o.val hv16) I call126 Tt (λ_ _=>Lm I (Mv 2 I (Lfa B8 I Z56 I (l_e I (Az I I Z56 I I (Kv.ko _) (Kv.one _) (by rw[Kv.ko,Ms.ko];decide) (AR (Ms.set_val _ _) (Ak I (Af (Cs I (Lfa U43 I Z3 I (Lo G3 2 I (Lq I (Qe I) (Nk (Sb 61 false I (by first|rfl|(rw[hkd];rfl)|exact oc hk1|exact oc hk3) (Aa I (Ae (Kt (Aj (Cs I (Mv 2 I (Ak I (Sb 71 true I (by first|rfl|(rw[hkd];rfl)|exact oc hk1|exact oc hk3) ?_)))))))))))))))))))))))))))))))
    exact Ah I (Cr I (Mv 4 I (Lq I (AP (Ans.c (⟨2,false,kv0 16⟩:Ans)) I I (λw=>by kernel_rfl)) (Pm [3,3,3] I (l_e I (BN (F9 bH bt vh vT vO v2 sq pk (ev++[(⟨t,(nx:Int),false,BC⟩:Evt)]) (by rw[lp];show ev.length+1<=60000;omega) b nx hnx t vo _ _ (⟨2,false,kv0 16⟩:Ans)) I I I call79 I Tt (λv3 _=>AB (Aw (Bp (Pm [4,3,3] I (Av (Av (Av (BB I (λ_ h=>⟨(v3,0),rfl,T0,by rw[K2 (by unfold BH;rw[hkd,oc hv16];simp)];rw[mj] at h;exact h⟩)))))))))))))))
  .refine Sb 48 false I (by first|rfl|(rw[hkd];rfl)|exact oc hk1|exact oc hk3) (Mv 3 I (Nk (Aa I (Ae (Ks (Cs I (Lfa U43 I Z3 I (Lo G3 2 I (Lq I (Qe I) (Nk (Sb 61 false I (by first|rfl|(rw[hkd];rfl)|exact oc hk1|exact oc hk3) (Aa I (Ae (Kt (Aj (Cs I (Mv 2 I (Ak I (Sb 71 false I (by first|rfl|(rw[hkd];rfl)|exact oc hk1|exact oc hk3) (Aa I ?_))))))))))))))))))))
   refine Cs I (Lfa U43 I Z3 I (Lo G3 2 I (Lq I (Qe I) (Ak I (Sb 80 false I (by first|rfl|(rw[hkd];rfl)|exact oc hk1|exact oc hk3) (Aa I (Cr I (Mv 2 I (Lq I (Cq ((m0 o).c) Cm Bl 0 I (Br _) (Ms.ko _)) (l_e I (AZ (X0 t (m0 o)) I I I call128 I Tt (λbw _=>Lc I (Lfa Dj I Gp I ?_)))))))))))))
   rw[show (m0 o)=mOf o from by rw[TA hkd]] 
   exact Ed (l_e I (AG I I Gp I I I (ng I) (Ce [vo,.int .i64 (nx:Int),.pointer none,ptV bw] I (AB (Aw (Bp (Pm [3,2,2,2,2,0,1] I (Av (Av (Av (BB I (λ_ h=>⟨(v2,bw),rfl,T0,by rw[bP (by unfold BH;rw[od hk8,hkd];simp) hkd];exact h⟩))))))))))))
  .refine Sb 48 false I (by first|rfl|(rw[hkd];rfl)|exact oc hk1|exact oc hk3) (Mv 3 I (Nk (Aa I (Ae (Ks (Cs I (Lfa U43 I Z3 I (Lo G3 2 I (Lq I (Qe I) (Nk (Sb 61 true I (by first|rfl|(rw[hkd];rfl)|exact oc hk1|exact oc hk3) (Ah I (Cr I (Lfa U43 I Z41 I (Lo G41 2 I (Lfa B8 I Z41 I (l_e I (AG I I Z41 I I I (by rw[Ms.ko];decide) (AR (Ms.set_by _ _ o.wb) (Nk (Aj ?_)))))))))))))))))))))
   refine Cs I (Mv 2 I (Ak I (Sb 71 false I (by first|rfl|(rw[hkd];rfl)|exact oc hk1|exact oc hk3) (Aa I (Cs I (Lfa U43 I Z3 I (Lo G3 2 I (Lq I (Qe I) (Ak I (Sb 80 false I (by first|rfl|(rw[hkd];rfl)|exact oc hk1|exact oc hk3) (Aa I (Cr I (Mv 2 I (Lq I (Cq (((m0 o).setBy o.by' o.wb).c) Cm Bl 0 I (Br _) (Ms.ko _)) (l_e I (AZ (X0 t ((m0 o).setBy o.by' o.wb)) I I I call128 I Tt (λbw _=>Lc I (Lfa Dj I Gp I ?_))))))))))))))))))
   rw[show ((m0 o).setBy o.by' o.wb)=mOf o from by rw[Tz hkd]] 
   exact Ed (l_e I (AG I I Gp I I I (ng I) (Ce [vo,.int .i64 (nx:Int),.pointer none,ptV bw] I (AB (Aw (Bp (Pm [3,2,2,2,2,0,1] I (Av (Av (Av (BB I (λ_ h=>⟨(v2,bw),rfl,T0,by rw[bQ (by unfold BH;rw[od hk8,hkd];simp) hkd];exact h⟩))))))))))))
  .refine Sb 48 false I (by first|rfl|(rw[hkd];rfl)|exact oc hk1|exact oc hk3) (Mv 3 I (Nk (Aa I (Ae (Ks (Cs I (Lfa U43 I Z3 I (Lo G3 2 I (Lq I (Qe I) (Nk (Sb 61 false I (by first|rfl|(rw[hkd];rfl)|exact oc hk1|exact oc hk3) (Aa I (Ae (Kt (Aj (Cs I (Mv 2 I (Ak I (Sb 71 false I (by first|rfl|(rw[hkd];rfl)|exact oc hk1|exact oc hk3) (Aa I ?_))))))))))))))))))))
   exact Cs I (Lfa U43 I Z3 I (Lo G3 2 I (Lq I (Qe I) (Ak I (Sb 80 true I (by first|rfl|(rw[hkd];rfl)|exact oc hk1|exact oc hk3) (Ah I (Cr I (Mv 2 I (Lq I (Cq ((kOf o).c) G77 Z77 1 I (Bb _) (Kv.ko _)) (l_e I (AZ (jf t (kOf o)) I I I call127 I Tt (λbw _=>Lc I (Lfa Dj I G8 I (Ed (l_e I (AG I I G8 I I I (ng I) (Ce [vo,.int .i64 (nx:Int),ptV bw,.pointer none] I (AB (Aw (Bp (Pm [3,2,2,2,2,0,1] I (Av (Av (Av (BB I (λ_ h=>⟨(v2,bw),rfl,T0,by rw[X1 (by unfold BH;rw[od hk8,hkd];simp) hkd];exact h⟩))))))))))))))))))))))))))
 .refine l_e I (E1 (S3 o.key hk9) I call125 Tt (λ_ _=>Sv' 38 (.tuple #[.agg (kv0 8).c.toArray,.int .i64 2]) I (by rw[dif_neg hk8];rfl) (Mv 3 I (l_e I (Au I I I zeroValue77 (λbk=>Ce (kv0 8).c I (l_e I (Az I I Z77 I I (Kv.ko _) (Kv.one _) (by simp only[Kv.ko];decide) (Ce (kv0 8).c (Sep.ku (by simp only[Kv.ko])) (Ak I (Cs I (Lfa U43 I Z3 I (Lo G3 1 I (Lq I (Cq ((kv0 8).c) G77 Z77 0 I (Bb _) (Kv.ko _)) (Lq I (AP (Ms.c (mZ o)) I I (XX o.kind o.wk (kv0 8))) (l_e I (Au I I I zeroValue154 (λbm=>Ce ms0.c I (l_e I (Az I I Bl I I (Ms.ko _) (Ms.one _) (by simp only[Ms.ko];decide) (Ce (Ms.c (mZ o)) (Sep.ku (by simp only[Ms.ko])) (Ns (Cs I (Lfa U43 I Z3 I (Lo G3 2 I (Mv 2 I ?_))))))))))))))))))))))))))
  rcases kd3 o hkd with hkd|hkd|⟨hk1,hk3⟩
  .refine Sb 48 true I (by first|rfl|(rw[hkd];rfl)|exact oc hk1|exact oc hk3) (Mv 3 I (Nk (Sb 51 false I (by first|rfl|(rw[hkd];rfl)|exact oc hk1|exact oc hk3) (Aa I (Ae (Ks (Cs I (Lfa U43 I Z3 I (Lo G3 2 I (Lq I (Qe I) (Nk (Sb 61 false I (by first|rfl|(rw[hkd];rfl)|exact oc hk1|exact oc hk3) (Aa I (Ae (Kt (Aj (Cs I (Mv 2 I (Ak I (Sb 71 true I (by first|rfl|(rw[hkd];rfl)|exact oc hk1|exact oc hk3) ?_))))))))))))))))))))
   exact Ah I (Cr I (Mv 4 I (Lq I (AP (Ans.c (⟨2,false,kv0 16⟩:Ans)) I I (λw=>by kernel_rfl)) (Pm [3,3,3] I (l_e I (BN (F9 bH bt vh vT vO v2 sq pk (ev++[(⟨t,(nx:Int),false,BC⟩:Evt)]) (by rw[lp];show ev.length+1<=60000;omega) b nx hnx t vo _ _ (⟨2,false,kv0 16⟩:Ans)) I I I call79 I Tt (λv3 _=>AB (Aw (Bp (Pm [4,3,3] I (Av (Av (Av (BB I (λ_ h=>⟨(v3,0),rfl,T0,by rw[K2 (by unfold BH;rw[oc hk8];rfl)];rw[mj] at h;exact h⟩)))))))))))))))
  .refine Sb 48 false I (by first|rfl|(rw[hkd];rfl)|exact oc hk1|exact oc hk3) (Mv 3 I (Nk (Aa I (Ae (Ks (Cs I (Lfa U43 I Z3 I (Lo G3 2 I (Lq I (Qe I) (Nk (Sb 61 true I (by first|rfl|(rw[hkd];rfl)|exact oc hk1|exact oc hk3) (Ah I (Cr I (Lfa U43 I Z41 I (Lo G41 2 I (Lfa B8 I Z41 I (l_e I (AG I I Z41 I I I (by rw[Ms.ko];decide) (AR (Ms.set_by _ _ o.wb) (Nk (Aj ?_)))))))))))))))))))))
   exact Cs I (Mv 2 I (Ak I (Sb 71 true I (by first|rfl|(rw[hkd];rfl)|exact oc hk1|exact oc hk3) (Ah I (Cr I (Mv 4 I (Lq I (AP (Ans.c (⟨2,false,kv0 16⟩:Ans)) I I (λw=>by kernel_rfl)) (Pm [3,3,3] I (l_e I (BN (F9 bH bt vh vT vO v2 sq pk (ev++[(⟨t,(nx:Int),false,BC⟩:Evt)]) (by rw[lp];show ev.length+1<=60000;omega) b nx hnx t vo _ _ (⟨2,false,kv0 16⟩:Ans)) I I I call79 I Tt (λv3 _=>AB (Aw (Bp (Pm [4,3,3] I (Av (Av (Av (BB I (λ_ h=>⟨(v3,0),rfl,T0,by rw[K2 (by unfold BH;rw[oc hk8];rfl)];rw[mj] at h;exact h⟩)))))))))))))))))))
  .refine Sb 48 false I (by first|rfl|(rw[hkd];rfl)|exact oc hk1|exact oc hk3) (Mv 3 I (Nk (Aa I (Ae (Ks (Cs I (Lfa U43 I Z3 I (Lo G3 2 I (Lq I (Qe I) (Nk (Sb 61 false I (by first|rfl|(rw[hkd];rfl)|exact oc hk1|exact oc hk3) (Aa I (Ae (Kt (Aj (Cs I (Mv 2 I (Ak I (Sb 71 true I (by first|rfl|(rw[hkd];rfl)|exact oc hk1|exact oc hk3) (Ah I ?_))))))))))))))))))))
   exact Cr I (Mv 4 I (Lq I (AP (Ans.c (⟨2,false,kv0 16⟩:Ans)) I I (λw=>by kernel_rfl)) (Pm [3,3,3] I (l_e I (BN (F9 bH bt vh vT vO v2 sq pk (ev++[(⟨t,(nx:Int),false,BC⟩:Evt)]) (by rw[lp];show ev.length+1<=60000;omega) b nx hnx t vo _ _ (⟨2,false,kv0 16⟩:Ans)) I I I call79 I Tt (λv3 _=>AB (Aw (Bp (Pm [4,3,3] I (Av (Av (Av (BB I (λ_ h=>⟨(v3,0),rfl,T0,by rw[K2 (by unfold BH;rw[oc hk8];rfl)];rw[mj] at h;exact h⟩))))))))))))))
theorem X2 {v:Wv} {b br:Nat} {w0 w:World} {D:List Nat} {e1 e2 e3 e4:Ent} {H:List Ent} (h:St w0 D (e1::e2::e3::e4::(v.H t m b br++H)) w):St w0 D (e1::e2::e3::e4::H) w :=
 h.sublist (((((pq _ _).cons_cons _).cons_cons _).cons_cons _).cons_cons _)
section
variable {P:Program} {n:Nat} {L:Env} {o:Oper} {Q:Exit->Act->World->Prop} {K:Act->World->Prop} {w0:World} {D:List Nat}
theorem bS {β:Type} {v:β->Value} {p:β->Prop} {E:World->Prop} (HA F:List Ent) {HB:β->List Ent} {f:FuncId} {xs:List Operand} {ts:Array TypeId} {d:Nat} {vs:List Value} (s:Con P f vs E HA v p HB) (ho:o.op=.call ⟨.value (.func f),xs.toArray,ts⟩) (hd:o.dst=some d) (hn:d.blt n)
 (hc:∀us w,(callFunc f us).run P w=.ok (.enter f us) w) (hv:evs L xs=some vs) (hE:∀w,St w0 D (HA++F) w->E w) (h:∀b,p b->Pre n ((d,v b)::L) (St w0 D (HB b++F)) K):EOp P n L (St w0 D (HA++F)) o Q K :=
 DO ho hd hn hc hv (λw x=>s.frame (F:=F) x (hE w x)) h
end
theorem X3 (b:Nat) (r:Rdr):Con prog 78 [ptV b] Tr [RDE b r] (λ_:Unit=>.tuple #[.agg r.v.c.toArray,.bool r.f]) Tr (λ_=>[RDE b r]):=by
 intro w hE hH
 refine Ey func78 I hH ?_
 exact Cs I (l_e I (Au I I I zeroValue56 (λbv=>Ce (kv0 16).c I (Ak I (Af (Do8 (rg 10) 45927 (λw2=>(RDE b r).at w2) I St.drawn (Hat 1 I) (Md 2 I (Dfa BF I Z56 I (Dq I (AQ ((Rdr.v r).c) I G56 Z56 I Ih (Rdr.v_part _) (Kv.ko _)) (Md 2 I (Dfa BF I Z4 I (Dq I (Al I G4 I Ih (Rdr.f_at _)) (d_e I (Az I I Z56 I I (Kv.ko _) (Kv.one _) (by simp only[Kv.ko];decide) (Ce (Kv.c (Rdr.v r)) (Sep.ku (by simp only[Kv.ko])) (Ai (Hat 1 I) (d_t I (e_q I I (AF I I) (AL (Kt (Ag (BM I (AK I G56 Z56 (Hat 0 I) (Kv.ko _)) (id I) (λ_ h=>⟨(),rfl,T0,h.drop⟩)))))))))))))))))))))))
theorem crd (h:x.Ok B) (hB:B+1<=60000) {t:Int} (ht:tkB t) (bH bt:Nat) (vT vO vE:Value) (sq pk:Int) (ev:List Evt) (hev:ev.length<=60000) (b nx bw br:Nat) (hnx:nx<=1000) (vo:Value) (ops:List Opn) {r r2:Rdr} (hrt:r.t=t) (hmay:x.hm.may t) (hp:rdP x.hm r) {L2:Hm} (hq:rdS x.hm r=(L2,r2,false)):Con prog 39 [ptV bH,.int .i64 t,ptV b] Tr (HSE bH (ptV x.bh) bt vT vO vE sq pk::AA vE 71 Evt.enc ev::CLE b vo nx [ptV bw,.pointer none]::AA vo 43 Opn.enc ops::RDE bw r::x.H) (λy:HQ=>.tuple #[]) (λy=>y.bh=x.bh/\y.Ok (B+1)/\y.hm=L2) (λy=>HSE bH (ptV x.bh) bt vT vO vE sq pk::AA vE 71 Evt.enc ev::CLE b vo (nx) [ptV bw,.pointer none]::AA vo 43 Opn.enc ops::RDE bw r2::y.H):=by
 intro w hE hH
 refine Ey func39 I hH (Aj (Cs I (Mv 2 I (Lfa Dj I G8 I (Lo JL 2 I (Lq I (D2 I NC I I) (Ak I (Sb 15 true I (I) (Ah I (Af (Do8 (rg 9) 13122 (λw2=>(HSE bH (ptV x.bh) bt vT vO vE sq pk).at w2/\(CLE b vo nx [ptV bw,.pointer none]).at w2) I St.drawn (H2 0 2 I) (Md 2 I (Dfa Dj I G8 I (Dq I (Al I JL I (λ_ h=>h.2) I) (Md 2 I (Dfa Cn I Z47 I (Dq I (Al I G47 I (λ_ h=>h.1) I) (d_t I ?_))))))))))))))))))
 have hs:=Tw h hB bw r (by rw[hrt];exact ht) (by rw[hrt];exact hmay) hp
 rw[hq] at hs
 refine Ee [_,_,_,_] hs I call77 Tt ?_
 rintro y ⟨hbh,hk,hy⟩
 refine Pw (St _ _ (_::_::_::_::RDE bw r2::HQ.H y)) ?_
 exact AL (Kt (Aa I (Ae (Aw (Bp (BB I (λ_ hh=>⟨y,rfl,⟨hbh,hk,hy⟩,hh⟩)))))))
theorem jU (h:x.Ok B) (hB:B+1<=60000) {t:Int} (ht:tkB t) (bH bt:Nat) (vT vO vE:Value) (sq pk:Int) (ev:List Evt) (hev:ev.length<=60000) (b nx bw br:Nat) (hnx:nx<=1000) (vo:Value) (ops:List Opn) {r r2:Rdr} (hrt:r.t=t) (hmay:x.hm.may t) (hp:rdP x.hm r) {L2:Hm} (hq:rdS x.hm r=(L2,r2,true)):Con prog 39 [ptV bH,.int .i64 t,ptV b] Tr (HSE bH (ptV x.bh) bt vT vO vE sq pk::AA vE 71 Evt.enc ev::CLE b vo nx [ptV bw,.pointer none]::AA vo 43 Opn.enc ops::RDE bw r::x.H) (λr:Value×HQ=>.tuple #[]) (λr=>r.2.bh=x.bh/\r.2.Ok (B+1)/\r.2.hm=L2) (λr=>HSE bH (ptV x.bh) bt vT vO r.1 sq pk::AA r.1 71 Evt.enc (ev++[⟨t,(nx:Int),true,(⟨0,Rdr.f r2,Rdr.v r2⟩:Ans)⟩])::CLE b vo (nx+1) [.pointer none,.pointer none]::AA vo 43 Opn.enc ops::r.2.H):=by
 intro w hE hH
 refine Ey func39 I hH (Aj (Cs I (Mv 2 I (Lfa Dj I G8 I (Lo JL 2 I (Lq I (D2 I NC I I) (Ak I (Sb 15 true I (I) (Ah I (Af (Do8 (rg 9) 13122 (λw2=>(HSE bH (ptV x.bh) bt vT vO vE sq pk).at w2/\(CLE b vo nx [ptV bw,.pointer none]).at w2) I St.drawn (H2 0 2 I) (Md 2 I (Dfa Dj I G8 I (Dq I (Al I JL I (λ_ h=>h.2) I) (Md 2 I (Dfa Cn I Z47 I (Dq I (Al I G47 I (λ_ h=>h.1) I) (d_t I ?_))))))))))))))))))
 have hs:=Tw h hB bw r (by rw[hrt];exact ht) (by rw[hrt];exact hmay) hp
 rw[hq] at hs
 refine Ee [_,_,_,_] hs I call77 Tt ?_
 rintro y ⟨hbh,hk,hy⟩
 refine Pw (St _ _ (_::_::_::_::RDE bw r2::HQ.H y)) ?_
 exact AL (Kt (Ah I (Cs I (Mv 2 I (Lfa Dj I G8 I (Lo JL 2 I (C0 (l_e I (Bf (X3 bw r2) I I I call78 I Tt (λ_ _=>Lm I (Mv 2 I (l_e I (Au I I I zeroValue56 (λbv=>Ce (kv0 16).c I (l_e I (Az I I Z56 I I (Kv.ko _) (Kv.one _) (by simp only[Kv.ko];decide) (Ce (Kv.c (Rdr.v r2)) (Sep.ku (by simp only[Kv.ko])) (Ak I (Cr I (Mv 4 I (Lq I (Cq ((Rdr.v r2).c) G56 Z56 0 I (Bb _) (Kv.ko _)) (Lq I (AP (Ans.c (⟨0,Rdr.f r2,Rdr.v r2⟩:Ans)) I I (jd (Rdr.f r2) (Rdr.v r2))) (Pm [2,2,2] I (l_e I (BN (F9 bH bt (ptV x.bh) vT vO vE sq pk ev hev b nx hnx t vo _ _ (⟨0,Rdr.f r2,Rdr.v r2⟩:Ans)) I I I call79 I Tt (λv2 _=>AB (Aw (Bp (Pm [3,3] I (Av (Av (BB I (λ_ hh=>⟨(v2,y),rfl,⟨hbh,hk,hy⟩,hh⟩)))))))))))))))))))))))))))))))))
theorem cwr (h:x.Ok B) (hB:B+1<=60000) {t:Int} (ht:tkB t) (bH bt:Nat) (vT vO vE:Value) (sq pk:Int) (ev:List Evt) (hev:ev.length<=60000) (b nx bw br:Nat) (hnx:nx<=1000) (vo:Value) (ops:List Opn) {m:Ms} {v v2:Wv} {m3:Hm} {B3:Nat} (hmay:x.hm.may t) (hW:WS x B t m sq v v2 false m3 B3) (hen:decide (v2.a=5)=false):Con prog 39 [ptV bH,.int .i64 t,ptV b] Tr (HSE bH (ptV x.bh) bt vT vO vE sq pk::AA vE 71 Evt.enc ev::CLE b vo nx [.pointer none,ptV bw]::AA vo 43 Opn.enc ops::((Wv.H v t m bw br)++x.H)) (λy:Nat×HQ=>.tuple #[]) (λy=>y.2.bh=x.bh/\y.2.Ok B3/\y.2.hm=m3) (λy=>HSE bH (ptV x.bh) bt vT vO vE sq pk::AA vE 71 Evt.enc ev::CLE b vo (nx) [.pointer none,ptV bw]::AA vo 43 Opn.enc ops::((Wv.H v2 t m bw y.1)++y.2.H)):=by
 intro w hE hH
 refine Ey func39 I hH (Aj (Cs I (Mv 2 I (Lfa Dj I G8 I (Lo JL 2 I (Lq I (D2 I NC I I) (Ak I (Sb 15 false I (I) (Aa I (Cs I (Mv 2 I (Lfa Dj I Gp I (Lo ND 2 I (Lq I (D2 I Uo I I) (Ak I (Sb 45 true I (I) (Ah I (Af (Do8 (rg 20) 2325054375 (λw2=>(HSE bH (ptV x.bh) bt vT vO vE sq pk).at w2/\(CLE b vo nx [.pointer none,ptV bw]).at w2) I St.drawn (H2 0 2 I) (Md 2 I (Dfa Dj I Gp I ?_)))))))))))))))))))))
 refine Dq I (Al I ND I (λ_ h=>h.2) I) (Md 2 I (Dfa Cn I Z47 I (Dq I (Al I G47 I (λ_ h=>h.1) I) (Md 2 I (Dfa Cn I Z41 I (Dq I (Al I G41 I (λ_ h=>h.1) I) (d_e I ?_)))))))
 have hs:=XW h ht hmay bw br m sq hW
 rw[hen] at hs
 refine Ee [_,_,_,_] hs I call80 Tt ?_
 rintro y ⟨hbh,hk,hy⟩
 refine Pw (St _ _ (_::_::_::_::((Wv.H v2 t m bw y.1)++HQ.H y.2))) ?_
 refine Ai (H2 0 2 I) (Md 6 I (d_t I (e_q I I (AF I I) (AL (Ks (Cs I (Lm I (Nk (Aa I (Ae (Kt (Cs I (Lm I (Nk (Aa I (Ae (Aw (Bp ?_))))))))))))))))))
 exact BB I (λ_ hh=>⟨y,rfl,⟨hbh,hk,hy⟩,hh⟩)
theorem jV (h:x.Ok B) (hB:B+1<=60000) {t:Int} (ht:tkB t) (bH bt:Nat) (vT vO vE:Value) (sq pk:Int) (ev:List Evt) (hev:ev.length<=60000) (b nx bw br:Nat) (hnx:nx<=1000) (vo:Value) (ops:List Opn) {m:Ms} {v v2:Wv} {m3:Hm} {B3:Nat} (hmay:x.hm.may t) (hW:WS x B t m sq v v2 false m3 B3) (hen:decide (v2.a=5)):Con prog 39 [ptV bH,.int .i64 t,ptV b] Tr (HSE bH (ptV x.bh) bt vT vO vE sq pk::AA vE 71 Evt.enc ev::CLE b vo nx [.pointer none,ptV bw]::AA vo 43 Opn.enc ops::((Wv.H v t m bw br)++x.H)) (λr:Value×HQ=>.tuple #[]) (λr=>r.2.bh=x.bh/\r.2.Ok B3/\r.2.hm=m3) (λr=>HSE bH (ptV x.bh) bt vT vO r.1 sq pk::AA r.1 71 Evt.enc (ev++[⟨t,(nx:Int),true,(⟨v2.e,false,kv0 16⟩:Ans)⟩])::CLE b vo (nx+1) [.pointer none,.pointer none]::AA vo 43 Opn.enc ops::r.2.H):=by
 intro w hE hH
 refine Ey func39 I hH (Aj (Cs I (Mv 2 I (Lfa Dj I G8 I (Lo JL 2 I (Lq I (D2 I NC I I) (Ak I (Sb 15 false I (I) (Aa I (Cs I (Mv 2 I (Lfa Dj I Gp I (Lo ND 2 I (Lq I (D2 I Uo I I) (Ak I (Sb 45 true I (I) (Ah I (Af (Do8 (rg 20) 2325054375 (λw2=>(HSE bH (ptV x.bh) bt vT vO vE sq pk).at w2/\(CLE b vo nx [.pointer none,ptV bw]).at w2) I St.drawn (H2 0 2 I) (Md 2 I (Dfa Dj I Gp I ?_)))))))))))))))))))))
 refine Dq I (Al I ND I (λ_ h=>h.2) I) (Md 2 I (Dfa Cn I Z47 I (Dq I (Al I G47 I (λ_ h=>h.1) I) (Md 2 I (Dfa Cn I Z41 I (Dq I (Al I G41 I (λ_ h=>h.1) I) (d_e I ?_)))))))
 have hs:=XW h ht hmay bw br m sq hW
 rw[hen] at hs
 refine Ee [_,_,_,_] hs I call80 Tt ?_
 rintro y ⟨hbh,hk,hy⟩
 refine Pw (St _ _ (_::_::_::_::((Wv.H v2 t m bw y.1)++HQ.H y.2))) ?_
 refine Ai (H2 0 2 I) (Md 6 I (d_t I (e_q I I (AF I I) (AL (Ks (Cs I (Lm I (Nk (Aa I (Ae (Kt (Cs I (Lm I (Nk (Ah I (Cr I (Mv 2 I ?_)))))))))))))))))
 exact Mv 2 I (Lq I (AP (Ans.c (⟨v2.e,false,kv0 16⟩:Ans)) I I (λw=>by kernel_rfl)) (l_e I (BN (F9 bH bt (ptV x.bh) vT vO vE sq pk ev hev b nx hnx t vo _ _ (⟨v2.e,false,kv0 16⟩:Ans)) I I I call79 I Tt (λv3 _=>AB (Aw (Bp (BB I (λ_ hh=>⟨(v3,y.2),rfl,⟨hbh,hk,hy⟩,X2 hh⟩))))))))
theorem jg (h:x.Ok B) (hB:B+1<=60000) {t:Int} (ht:tkB t) (bH bt:Nat) (vT vO vE:Value) (sq pk:Int) (ev:List Evt) (hev:ev.length<=60000) (b nx bw br:Nat) (hnx:nx<=1000) (vo:Value) (ops:List Opn) {m:Ms} {v v2:Wv} {m3:Hm} {B3:Nat} (hmay:x.hm.may t) (hW:WS x B t m sq v v2 true m3 B3) (hen:decide (v2.a=5)):Con prog 39 [ptV bH,.int .i64 t,ptV b] Tr (HSE bH (ptV x.bh) bt vT vO vE sq pk::AA vE 71 Evt.enc ev::CLE b vo nx [.pointer none,ptV bw]::AA vo 43 Opn.enc ops::((Wv.H v t m bw br)++x.H)) (λr:Value×HQ=>.tuple #[]) (λr=>r.2.bh=x.bh/\r.2.Ok B3/\r.2.hm=m3) (λr=>HSE bH (ptV x.bh) bt vT vO r.1 (IntKind.u64.wrap (sq+1)) pk::AA r.1 71 Evt.enc (ev++[⟨t,(nx:Int),true,(⟨v2.e,false,kv0 16⟩:Ans)⟩])::CLE b vo (nx+1) [.pointer none,.pointer none]::AA vo 43 Opn.enc ops::r.2.H):=by
 intro w hE hH
 refine Ey func39 I hH (Aj (Cs I (Mv 2 I (Lfa Dj I G8 I (Lo JL 2 I (Lq I (D2 I NC I I) (Ak I (Sb 15 false I (I) (Aa I (Cs I (Mv 2 I (Lfa Dj I Gp I (Lo ND 2 I (Lq I (D2 I Uo I I) (Ak I (Sb 45 true I (I) (Ah I (Af (Do8 (rg 20) 2325054375 (λw2=>(HSE bH (ptV x.bh) bt vT vO vE sq pk).at w2/\(CLE b vo nx [.pointer none,ptV bw]).at w2) I St.drawn (H2 0 2 I) (Md 2 I (Dfa Dj I Gp I ?_)))))))))))))))))))))
 refine Dq I (Al I ND I (λ_ h=>h.2) I) (Md 2 I (Dfa Cn I Z47 I (Dq I (Al I G47 I (λ_ h=>h.1) I) (Md 2 I (Dfa Cn I Z41 I (Dq I (Al I G41 I (λ_ h=>h.1) I) (d_e I ?_)))))))
 have hs:=XW h ht hmay bw br m sq hW
 rw[hen] at hs
 refine Ee [_,_,_,_] hs I call80 Tt ?_
 rintro y ⟨hbh,hk,hy⟩
 refine Pw (St _ _ (_::_::_::_::((Wv.H v2 t m bw y.1)++HQ.H y.2))) ?_
 refine Ai (H2 0 2 I) (Md 6 I (d_t I (e_q I I (AF I I) (AL (Ks (Cs I (Lm I (Nk (Ah I (Cr I (Mv 2 I (Lfa Cn I Z41 I (Lo G41 0 I (Lq I (V7 I I I) (Lc I (Lfa Cn I Z41 I (l_e I ?_)))))))))))))))))
 exact AG I I Z41 I I I (ng I) (Ce [ptV x.bh,ptV bt,vT,vO,vE,.int .u64 (IntKind.u64.wrap (sq+1)),.int .i64 pk] I (Nk (Cs I (Lm I (Nk (Ah I (Cr I (Mv 4 I (Lq I (AP (Ans.c (⟨v2.e,false,kv0 16⟩:Ans)) I I (λw=>by kernel_rfl)) (l_e I (BN (F9 bH bt (ptV x.bh) vT vO vE (IntKind.u64.wrap (sq+1)) pk ev hev b nx hnx t vo _ _ (⟨v2.e,false,kv0 16⟩:Ans)) I I I call79 I Tt (λv3 _=>AB (Aw (Bp (BB I (λ_ hh=>⟨(v3,y.2),rfl,⟨hbh,hk,hy⟩,X2 hh⟩))))))))))))))))
theorem jW (bH bt:Nat) (vT vO vE:Value) (sq pk:Int) (ev:List Evt) (hev:ev.length<=59999) (b nx:Nat) (hnx:nx<=1000) (vo:Value) (ops:List Opn) (t:Int) {o:Opn} (hop:ops[nx]?=some o) (hol:ops.length<=1000) (hk9:o.key.size<=9223372036854775807) (hkd:o.kind=1\/o.kind=2\/o.kind=3\/o.kind=4):Con prog 39 [ptV bH,.int .i64 t,ptV b] Tr (HSE bH (ptV x.bh) bt vT vO vE sq pk::AA vE 71 Evt.enc ev::CLE b vo nx [.pointer none,.pointer none]::AA vo 43 Opn.enc ops::x.H) (λr:Value×Nat=>.tuple #[]) Tr (λr=>HSE bH (ptV x.bh) bt vT vO r.1 sq pk::AA r.1 71 Evt.enc (ev++(bgR t nx o).2.1)::CLE b vo (bgR t nx o).1 (((bgR t nx o).2.2 r.2).1)::AA vo 43 Opn.enc ops::(((bgR t nx o).2.2 r.2).2++x.H)):=by
 intro w hE hH
 refine Ey func39 I hH (Aj (Cs I (Mv 2 I (Lfa Dj I G8 I (Lo JL 2 I (Lq I (D2 I NC I I) (Ak I (Sb 15 false I (I) (Aa I (Cs I (Mv 2 I (Lfa Dj I Gp I (Lo ND 2 I (Lq I (D2 I Uo I I) (Ak I (Sb 45 false I (I) (Aa I (Cr I (Mv 3 I (l_e I ?_))))))))))))))))))))
 exact bS [_,_,_,_] (HQ.H x) (gg bH bt (ptV x.bh) vT vO vE sq pk ev hev b nx hnx t vo ops hop hol hk9 hkd) I I I call81 I Tt (λr _=>AB (Aw (Bp (BB I (λ_ hh=>⟨r,rfl,T0,by rw[mj] at hh;exact hh⟩)))))
abbrev Jb (b:Bool) (sq:Int):Int:=if b=true then IntKind.u64.wrap (sq+1) else sq
theorem op_at {c:Cl} (h:c.nx<c.ops.length):c.ops[c.nx]?=some c.op:=by
 unfold Cl.op
 rw[om,kY h];rfl
def Ms.num (m:Ms) (s:Int):Ms:=if h:(Lit.int .u64 s).wf=true then m.kA s h else m
theorem Ms.num_eq (m:Ms) {s:Int} (h:(Lit.int .u64 s).wf):m.num s=m.kA s h:=by unfold Ms.num;rw[dif_pos h]
def kE (t sq:Int) (L:Hm) (c:Cl):Hm×Cl×Bool×List Evt:=match c.ph with
 |.idle=>if BH c.op=true then (L,c.done,false,[evB t c,evD t c ⟨2,false,kv0 16⟩]) else (L,{c with ph:=if c.op.kind=4 then .rd (rd0 t (kOf c.op)) else .wr ⟨0,false,none,0⟩},false,[evB t c])
 |.rd r=>if (rdS L r).2.2=true then ((rdS L r).1,c.done,false,[evD t c ⟨0,(rdS L r).2.1.f,(rdS L r).2.1.v⟩]) else ((rdS L r).1,{c with ph:=.rd (rdS L r).2.1},false,[])
 |.wr v=>if (wrS t L ((mOf c.op).num sq) v).2.1.a=5 then ((wrS t L ((mOf c.op).num sq) v).1,c.done,(wrS t L ((mOf c.op).num sq) v).2.2,[evD t c ⟨(wrS t L ((mOf c.op).num sq) v).2.1.e,false,kv0 16⟩]) else ((wrS t L ((mOf c.op).num sq) v).1,{c with ph:=.wr (wrS t L ((mOf c.op).num sq) v).2.1},false,[])
def preC (t sq:Int) (L:Hm) (c:Cl):Prop:=match c.ph with
 |.idle=>c.nx<c.ops.length/\c.op.key.size<=9223372036854775807/\(c.op.kind=1\/c.op.kind=2\/c.op.kind=3\/c.op.kind=4)
 |.rd r=>r.t=t/\rdP L r
 |.wr v=>wrP t L ((mOf c.op).num sq) v
theorem WS.inn {sq:Int} {v v2:Wv} {inn:Bool} {m3:Hm} {B3:Nat} (h:WS x B t m sq v v2 inn m3 B3) (ha:v2.a≠5):inn=false:=by
 cases h<;>first|rfl|exact absurd rfl ha
theorem P7 (h:x.Ok B) (hB:B+1<=60000) {t:Int} (ht:tkB t) (bH bt:Nat) (vT vO vE:Value) (sq pk:Int) (ev:List Evt) (hev:ev.length<=59999) (hsq:(Lit.int .u64 sq).wf) (c:CC) (hol:c.m.ops.length<=1000) (hnx:c.m.nx<=1000)
 (hmay:c.m.ph.isI=false->x.hm.may t=true) (hpre:preC t sq x.hm c.m):Con prog 39 [ptV bH,.int .i64 t,ptV c.b] Tr (HSE bH (ptV x.bh) bt vT vO vE sq pk::AA vE 71 Evt.enc ev::(c.H t++x.H)) (λ_:Value×CC×HQ=>.tuple #[])
 (λr=>r.2.1.b=c.b/\r.2.1.m=(kE t sq x.hm c.m).2.1/\r.2.2.bh=x.bh/\r.2.2.Ok (B+1)/\r.2.2.hm=(kE t sq x.hm c.m).1)
 (λr=>HSE bH (ptV x.bh) bt vT vO r.1 (Jb (kE t sq x.hm c.m).2.2.1 sq) pk::AA r.1 71 Evt.enc (ev++(kE t sq x.hm c.m).2.2.2)::(r.2.1.H t++r.2.2.H)):=by
 obtain⟨b,vo,bw,br,⟨ops,nx,ph⟩⟩:=c
 have hev':ev.length<=60000:=by omega
 cases ph with
 |idle =>
  obtain⟨h1,hk9,hk⟩:=hpre
  have hop:=op_at h1
  have hwB:=h.mono (oS B) hB
  have hG:=jW (x:=x) bH bt vT vO vE sq pk ev hev b nx hnx vo ops t hop hol hk9 hk
  unfold kE
  dsimp only
  by_cases hT:BH (Cl.op ⟨ops,nx,.idle⟩)=true
  .rw[lu hT]
   rw[K2 hT] at hG
   exact Con.conv hG I (λr:Value×Nat=>(r.1,(⟨b,vo,bw,br,⟨ops,nx+1,.idle⟩⟩:CC),x)) (λr _=>⟨⟨rfl,rfl,rfl,hwB,rfl⟩,rfl⟩)
  rw[lz hT]
  have hT':=m9.2 hT
  by_cases h4:(Cl.op ⟨ops,nx,.idle⟩).kind=4
  .rw[lu h4]
   rw[X1 hT' h4] at hG
   exact Con.conv hG I (λr:Value×Nat=>(r.1,(⟨b,vo,r.2,br,⟨ops,nx,.rd (rd0 t (kOf (Cl.op ⟨ops,nx,.idle⟩)))⟩⟩:CC),x)) (λr _=>⟨⟨rfl,rfl,rfl,hwB,rfl⟩,rfl⟩)
  .rw[lz h4]
   have hG2:bgR t nx (Cl.op ⟨ops,nx,.idle⟩)=(nx,[⟨t,(nx:Int),false,BC⟩],λb=>([.pointer none,ptV b],[WRE b ⟨t,mOf (Cl.op ⟨ops,nx,.idle⟩),0,false,.pointer none,0⟩])):=by
    unfold bgR;rw[lz hT,lz h4]
   rw[hG2] at hG
   exact Con.conv hG I (λr:Value×Nat=>(r.1,(⟨b,vo,r.2,br,⟨ops,nx,.wr ⟨0,false,none,0⟩⟩⟩:CC),x)) (λr _=>⟨⟨rfl,rfl,rfl,hwB,rfl⟩,rfl⟩)
 |rd r =>
  obtain⟨hrt,hp⟩:=hpre
  have hm:=hmay rfl
  unfold kE
  dsimp only
  cases hq:rdS x.hm r with
  |mk L2 q =>
   obtain⟨r2,en⟩:=q
   cases en
   .rw[lz (show ¬(false=true) from pt)]
    exact Con.conv (crd h hB ht bH bt vT vO vE sq pk ev hev' b nx bw br hnx vo ops hrt hm hp hq) I (λy:HQ=>(vE,(⟨b,vo,bw,br,⟨ops,nx,.rd r2⟩⟩:CC),y)) (λy hy=>⟨⟨rfl,rfl,hy.1,hy.2.1,hy.2.2⟩,by rw[nS];rfl⟩)
   .rw[lu rfl]
    exact Con.conv (jU h hB ht bH bt vT vO vE sq pk ev hev' b nx bw br hnx vo ops hrt hm hp hq) I (λy:Value×HQ=>(y.1,(⟨b,vo,bw,br,⟨ops,nx+1,.idle⟩⟩:CC),y.2)) (λy hy=>⟨⟨rfl,rfl,hy.1,hy.2.1,hy.2.2⟩,rfl⟩)
 |wr v =>
  have hm:=hmay rfl
  have hp:wrP t x.hm ((mOf (Cl.op ⟨ops,nx,.wr v⟩)).num sq) v:=hpre
  unfold kE
  dsimp only
  rw[Ms.num_eq _ hsq] at hp ⊢
  obtain⟨B2,hb2,_,hW⟩:=ga hB hsq hp
  cases hq:wrS t x.hm ((mOf (Cl.op ⟨ops,nx,.wr v⟩)).kA sq hsq) v with
  |mk L2 q =>
   obtain⟨v2,inn⟩:=q
   rw[hq] at hW
   have hm1:∀{y:HQ},y.Ok B2->y.Ok (B+1):=λk=>k.mono hb2 hB
   dsimp only at hW ⊢
   by_cases h5:v2.a=5
   .rw[lu h5]
    cases inn
    .exact Con.conv (jV h hB ht bH bt vT vO vE sq pk ev hev' b nx bw br hnx vo ops hm hW (od h5)) I (λy:Value×HQ=>(y.1,(⟨b,vo,bw,br,⟨ops,nx+1,.idle⟩⟩:CC),y.2)) (λy hy=>⟨⟨rfl,rfl,hy.1,hm1 hy.2.1,hy.2.2⟩,rfl⟩)
    .exact Con.conv (jg h hB ht bH bt vT vO vE sq pk ev hev' b nx bw br hnx vo ops hm hW (od h5)) I (λy:Value×HQ=>(y.1,(⟨b,vo,bw,br,⟨ops,nx+1,.idle⟩⟩:CC),y.2)) (λy hy=>⟨⟨rfl,rfl,hy.1,hm1 hy.2.1,hy.2.2⟩,rfl⟩)
   .rw[lz h5]
    have hi:=hW.inn h5
    subst hi
    exact Con.conv (cwr h hB ht bH bt vT vO vE sq pk ev hev' b nx bw br hnx vo ops hm hW (oc h5)) I (λy:Nat×HQ=>(vE,(⟨b,vo,bw,y.1,⟨ops,nx,.wr v2⟩⟩:CC),y.2)) (λy hy=>⟨⟨rfl,rfl,hy.1,hm1 hy.2.1,hy.2.2⟩,by rw[nS];rfl⟩)
end Go.Proofs.YtloldofjddbjoaaGreat
namespace Go.Proofs.YtloldofjddbjoaaGreat.Sc
open Go.Sep Go.RowKit Tryz
variable {c:Int} {k off n x:Nat} {l:List Int}
structure Tab where
 n:Nat
 st:List Int
 wt:List Int
 pk:List Int
 worst:Int
structure Tab.Ok (m:Tab) (c:Int):Prop where
 n1:1<=m.n
 n8:m.n<=8
 st:m.st.length=m.n
 wt:m.wt.length=m.n
 pk:m.pk.length=m.n
 wt0:∀k,k<m.n->0<=m.wt.getD k 0/\m.wt.getD k 0<=c
 pk0:∀k,k<m.n->0<=m.pk.getD k 0/\m.pk.getD k 0<=c
 w0:0<=m.worst/\m.worst<=c
theorem Tab.Ok.mono {m:Tab} {d:Int} (h:m.Ok c) (hd:c<=d):m.Ok d:=⟨h.n1,h.n8,h.st,h.wt,h.pk,λk hk=>⟨(h.wt0 k hk).1,oR (h.wt0 k hk).2 hd⟩,λk hk=>⟨(h.pk0 k hk).1,oR (h.pk0 k hk).2 hd⟩,h.w0.1,oR h.w0.2 hd⟩
def Jc (l:List Int):List Value:=l.map (Value.int .i64)
def HW (l:List Int):List Int:=l++List.replicate (8-l.length) 0
theorem K3 (h:l.length<=8):(HW l).length=8:=by simp[HW];omega
theorem K4 (h:k<l.length):(HW l)[k]?=some (l.getD k 0):=by
 simp[HW,lq h,om,h]
theorem K5 (h:k<l.length) (x:Int):(HW l).set k x=HW (l.set k x):=by
 simp[HW,nN _ _ h]
def kH (m:Tab):List Value:=[.int .i64 m.n]++(Jc (HW m.st)++(Jc (HW m.wt)++(Jc (HW m.pk)++[.int .i64 m.worst])))
theorem K6 (l:List Int):(Jc l).length=l.length:=by simp[Jc]
theorem K7 (l:List Int) (k:Nat):(Jc l)[k]?=(l[k]?).map (Value.int .i64):=by simp[Jc]
theorem K8 (l:List Int) (k:Nat) (x:Int):(Jc l).set k (.int .i64 x)=Jc (l.set k x):=by simp[Jc,m4]
section
variable {m:Tab} {c:Int} (h:m.Ok c)
include h
theorem Tab.Ok.l1:(Jc (HW m.st)).length=8:=by rw[K6,K3 (by rw[h.st];exact h.n8)]
theorem Tab.Ok.l2:(Jc (HW m.wt)).length=8:=by rw[K6,K3 (by rw[h.wt];exact h.n8)]
theorem Tab.Ok.l3:(Jc (HW m.pk)).length=8:=by rw[K6,K3 (by rw[h.pk];exact h.n8)]
theorem GZ:(kH m).length=26:=by simp[kH,h.l1,h.l2,h.l3]
theorem X4 (hk:k<m.n) (ho:off=1+k):(kH m)[off]?=some (.int .i64 (m.st.getD k 0)):=by
 have h8:=h.n8
 have l1:=h.l1
 subst ho
 rw[kH,lx (by simp),lq (by simp;omega)]
 simp only[ou,pf]
 rw[K7,K4 (by rw[h.st];exact hk)];rfl
theorem RT (hk:k<m.n) (ho:off=9+k):(kH m)[off]?=some (.int .i64 (m.wt.getD k 0)):=by
 have h8:=h.n8
 have l1:=h.l1
 have l2:=h.l2
 subst ho
 rw[kH,lx (by simp;omega),lx (by simp;omega),lq (by simp;omega)]
 rw[l1,ou,show 9+k-1-8=k from by omega,K7,K4 (by rw[h.wt];exact hk)];rfl
theorem gh (hk:k<m.n) (ho:off=17+k):(kH m)[off]?=some (.int .i64 (m.pk.getD k 0)):=by
 have h8:=h.n8
 have l1:=h.l1
 have l2:=h.l2
 have l3:=h.l3
 subst ho
 rw[kH,lx (by simp;omega),lx (by simp;omega),lx (by simp;omega),lq (by simp;omega)]
 rw[l1,l2,ou,show 17+k-1-8-8=k from by omega,K7,K4 (by rw[h.pk];exact hk)];rfl
theorem Vk (ho:off=25):(kH m)[off]?=some (.int .i64 m.worst):=by
 have l1:=h.l1
 have l2:=h.l2
 have l3:=h.l3
 subst ho
 rw[kH,lx (by simp),lx (by simp;omega),lx (by simp;omega),lx (by simp;omega)]
 rw[l1,l2,l3];rfl
theorem gi (x:Int) (hk:k<m.n) (ho:off=1+k):(kH m).set off (.int .i64 x)=kH {m with st:=m.st.set k x}:=by
 have h8:=h.n8
 have l1:=h.l1
 subst ho
 unfold kH
 rw[m6 _ _ (by simp),nN _ _ (by simp;omega)]
 simp only[ou,pf,K8]
 rw[K5 (by rw[h.st];exact hk)]
theorem RU (x:Int) (hk:k<m.n) (ho:off=9+k):(kH m).set off (.int .i64 x)=kH {m with wt:=m.wt.set k x}:=by
 have h8:=h.n8
 have l1:=h.l1
 have l2:=h.l2
 subst ho
 unfold kH
 rw[m6 _ _ (by simp;omega),m6 _ _ (by simp;omega),nN _ _ (by simp;omega)]
 rw[l1,ou,show 9+k-1-8=k from by omega,K8,K5 (by rw[h.wt];exact hk)]
theorem gj (x:Int) (hk:k<m.n) (ho:off=17+k):(kH m).set off (.int .i64 x)=kH {m with pk:=m.pk.set k x}:=by
 have h8:=h.n8
 have l1:=h.l1
 have l2:=h.l2
 have l3:=h.l3
 subst ho
 unfold kH
 rw[m6 _ _ (by simp;omega),m6 _ _ (by simp;omega),m6 _ _ (by simp;omega),nN _ _ (by simp;omega)]
 rw[l1,l2,ou,show 17+k-1-8-8=k from by omega,K8,K5 (by rw[h.pk];exact hk)]
theorem Vl (x:Int) (ho:off=25):(kH m).set off (.int .i64 x)=kH {m with worst:=x}:=by
 have l1:=h.l1
 have l2:=h.l2
 have l3:=h.l3
 subst ho
 unfold kH
 rw[m6 _ _ (by simp),m6 _ _ (by simp;omega),m6 _ _ (by simp;omega),m6 _ _ (by simp;omega)]
 rw[l1,l2,l3];rfl
end
def kJ (m:Tab) (i s:Int):Tab:=if 0<=i/\i<m.n/\m.st.getD i.toNat 0≠2 then {m with st:=m.st.set i.toNat s,wt:=if s=0 then m.wt else m.wt.set i.toNat 0} else m
theorem getD_set {j:Nat} {x:Int}:(l.set k x).getD j 0=if k=j/\k<l.length then x else l.getD j 0:=by
 simp only[om,oC]
 by_cases hk:k=j
 .subst hk;by_cases hl:k<l.length<;>simp[hl]
 .simp[hk]
theorem turn_ok {m:Tab} (h:m.Ok c) (i s:Int):(kJ m i s).Ok c:=by
 unfold kJ
 split
 .rename_i hi
  refine⟨h.n1,h.n8,by simp[h.st],by split<;>simp[h.wt],h.pk,λk hk=>?_,h.pk0,h.w0⟩
  have:=h.wt0 k hk
  simp only
  split
  .exact this
  .rw[getD_set];split
   .have:=h.w0;omega
   .exact this
 .exact h
theorem turn_n (m:Tab) (i s:Int):(kJ m i s).n=m.n:=by unfold kJ;split<;>rfl
def kG (m:Tab):List Nat:=(List.range m.n).filter (λk=>decide (m.st.getD k 0=0))
def nints (l:List Nat):List Int:=l.map (λk:Nat=>(k:Int))
def Hh (m:Tab) (k:Nat):List Int:=nints ((List.range k).filter (λj=>decide (m.st.getD j 0=0)))
theorem bT (m:Tab):Hh m m.n=nints (kG m):=rfl
theorem Vm {m:Tab} {k:Nat} (h:m.st.getD k 0=0):Hh m k++[(k:Int)]=Hh m (k+1):=by
 simp only[Hh,oL,oM,nints,mn,oX,List.filter_nil,h,decide_true,mA,ma,mb]
theorem X5 {m:Tab} (h:¬m.st.getD k 0=0):Hh m k=Hh m (k+1):=by
 simp only[Hh,oL,oM,nints,mn,oX,List.filter_nil,h,decide_false,ny,nz,mb,nS]
theorem Vn (m:Tab) (k:Nat):(Hh m k).length<=k:=by
 simp only[Hh,nints,mB]
 exact mf (oK _ _) (by simp)
theorem runM_lt {m:Tab} (h:k∈kG m):k<m.n:=by simp[kG] at h;exact h.1
theorem P8 (m:Tab):(kG m).length<=m.n:=mf (oK _ _) (by simp)
theorem MW {l:List Nat} {x:Nat} (h:l[k]?=some x):(nints l)[k]?=some (x:Int):=by simp[nints,h]
theorem Vo (l:List Nat):(nints l).length=l.length:=by simp[nints]
def EO (told:Nat) (m:Tab) (x:Nat):Tab:=if x=told then m else {m with wt:=m.wt.set x (m.wt.getD x 0+1),worst:=if m.wt.getD x 0+1>m.worst then m.wt.getD x 0+1 else m.worst}
theorem TB {m:Tab} (h:m.Ok c) {x:Nat} (hx:x<m.n) (told:Nat):(EO told m x).Ok (c+1):=by
 unfold EO
 split
 .exact h.mono (by omega)
 .have hw:=h.wt0 x hx
  have h0:=h.w0
  refine⟨h.n1,h.n8,h.st,by simp[h.wt],h.pk,λk hk=>?_,λk hk=>?_,?_⟩
  .have:=h.wt0 k hk
   simp only[getD_set]
   split<;>omega
  .have:=h.pk0 k hk;simp only;omega
  .simp only;split<;>omega
theorem X6 (told:Nat) (m:Tab) (x:Nat):(EO told m x).n=m.n:=by unfold EO;split<;>rfl
theorem bU (told:Nat) (m:Tab) (x:Nat):(EO told m x).st=m.st:=by unfold EO;split<;>rfl
theorem bV (told:Nat) (m:Tab) (x:Nat):(EO told m x).pk=m.pk:=by unfold EO;split<;>rfl
def stepsM (told:Nat) (m:Tab) (l:List Nat):Tab:=l.foldl (EO told) m
theorem Iq (told:Nat):∀(l:List Nat) (m:Tab),(stepsM told m l).n=m.n
 |[],m=>rfl
 |x::l,m=>(Iq told l (EO told m x)).trans (X6 told m x)
theorem steps_st (told:Nat):∀(l:List Nat) (m:Tab),(stepsM told m l).st=m.st
 |[],m=>rfl
 |x::l,m=>(steps_st told l (EO told m x)).trans (bU told m x)
theorem X7 (told:Nat):∀(l:List Nat) (m:Tab),(stepsM told m l).pk=m.pk
 |[],m=>rfl
 |x::l,m=>(X7 told l (EO told m x)).trans (bV told m x)
theorem Ir (told:Nat):∀(l:List Nat) {m:Tab} {c:Int},m.Ok c->(∀x∈l,x<m.n)->(stepsM told m l).Ok (c+l.length)
 |[],m,c,h,hl=>by simpa [stepsM] using h
 |x::l,m,c,h,hl=>by
  have h1:=TB h (hl x (ns ..)) told
  have:=Ir told l h1 (λy hy=>by rw[X6];exact hl y (nG _ hy))
  exact this.mono (by simp;omega)
theorem RV (told:Nat) (m:Tab) (l:List Nat) (x:Nat):stepsM told m (l++[x])=EO told (stepsM told m l) x:=by simp[stepsM]
theorem RW {l:List Nat} {i:Nat} (h:l[i]?=some x):l.take (i+1)=l.take i++[x]:=by
 have:=(lR.1 h)
 rw[m7 this.1,this.2]
def Is (m:Tab) (told:Nat):Tab:={m with wt:=m.wt.set told 0,pk:=m.pk.set told (m.pk.getD told 0+1)}
theorem bW {m:Tab} (h:m.Ok c) {told:Nat} (ht:told<m.n):(Is m told).Ok (c+1):=by
 have h0:=h.w0
 have hp:=h.pk0 told ht
 refine⟨h.n1,h.n8,h.st,by simp[Is,h.wt],by simp[Is,h.pk],λk hk=>?_,λk hk=>?_,by simp only[Is];omega⟩
 .have:=h.wt0 k hk
  simp only[Is,getD_set];split<;>omega
 .have:=h.pk0 k hk
  simp only[Is,getD_set];split<;>omega
def whoM (m:Tab) (p:Int):Nat:=(kG m).getD (p%((kG m).length:Int)).toNat 0
def kD (m:Tab) (p:Int):Tab:=if kG m=[] then m else Is (stepsM (whoM m p) m (kG m)) (whoM m p)
theorem RX {m:Tab} (p:Int) (h:kG m≠[]):(p%((kG m).length:Int)).toNat<(kG m).length:=by
 have hl:0<(kG m).length:=nZ.2 h
 have h1:=Int.emod_nonneg p (show ((kG m).length:Int)≠0 by omega)
 have h2:=Int.emod_lt_of_pos p (show 0<((kG m).length:Int) by omega)
 omega
theorem TC {m:Tab} (p:Int) (h:kG m≠[]):(kG m)[(p%((kG m).length:Int)).toNat]?=some (whoM m p):=by
 have:=RX p h
 simp[whoM,om,this]
theorem who_mem {m:Tab} (p:Int) (h:kG m≠[]):whoM m p∈kG m:=mQ (TC p h)
theorem pick_ok {m:Tab} (h:m.Ok c) (p:Int):(kD m p).Ok (c+9):=by
 unfold kD
 split
 .exact h.mono (by omega)
 .rename_i hr
  have h1:=Ir (whoM m p) (kG m) h (λx hx=>runM_lt hx)
  have h2:=bW h1 (told:=whoM m p) (by rw[Iq];exact runM_lt (who_mem p hr))
  have h3:=P8 m
  have h8:=h.n8
  exact h2.mono (by omega)
theorem pick_n (m:Tab) (p:Int):(kD m p).n=m.n:=by
 unfold kD;split
 .rfl
 .exact Iq _ _ _
theorem Vp {p:Int} {n:Int} (hn:0<n):(p.tmod n+n)%n=p%n:=by
 rw[Int.add_emod_right]
 by_cases h:0<=p
 .rw[Int.tmod_eq_emod_of_nonneg h,Int.emod_emod_of_dvd _ (Int.dvd_refl _)]
 .have h3:=Int.mul_tdiv_add_tmod p n
  rw[show p.tmod n=p+n*(-(p.tdiv n)) from by rw[Int.mul_neg];omega,Int.add_mul_emod_self_left]
section
variable {m:Tab} {t k i x:Nat} (ht:(kG m)[k]?=some t) (hx:(kG m)[i]?=some x)
include ht hx
end
def newM (n:Nat):Tab:=⟨n,List.replicate n 0,List.replicate n 0,List.replicate n 0,0⟩
theorem new_ok (h1:1<=n) (h8:n<=8):(newM n).Ok 0:=by
 have hg:∀k,(List.replicate n (0:Int)).getD k 0=0:=λk=>by
  simp only[om,mO];split<;>rfl
 exact⟨h1,h8,by simp[newM],by simp[newM],by simp[newM],λk _=>by simp only[newM];rw[hg];omega,λk _=>by simp only[newM];rw[hg];omega,by simp[newM]⟩
theorem X8 (h:n<=8):HW (List.replicate n 0)=List.replicate 8 0:=by
 unfold HW
 rw[oy,oF,show n+(8-n)=8 from by omega]
theorem bX {n:Nat} (h:n<=8):kH (newM n)=.int .i64 (n:Int)::List.replicate 25 (.int .i64 0):=by
 unfold kH newM
 simp only[X8 h]
 rfl
theorem J1 {m:Tab} (hm:m.Ok c) (b:Nat) (i:Int):Con prog 151 [pV b,.int .i64 i] Tr [Ad b 171 (kH m)] (λ_:Unit=>.bool (decide (0<=i/\i<m.n))) Tr (λ_=>[Ad b 171 (kH m)]):=by
 intro w hE hH
 refine enter (n:=15) (vs:=[pV b,.int .i64 i]) (St w [b] [Ad b 171 (kH m)]) func151 I I I (St.init hH) ?_
 refine Cs I (Ak I (Cs I (Mv 3 I (CB 7 I (λh=>?_) (λh=>?_)))))
 .exact Mv 3 I (Lfa Hu I Z3 I (Lo G3 0 I (Mv 2 I (Ak I (Ag (Ao I I (λ_ h'=>⟨(),congrArg Eb (by simp[h]),T0,h'⟩)))))))
 .exact Mv 7 I (Ak I (Ag (Ao I I (λ_ h'=>⟨(),congrArg Eb (by simp;omega),T0,h'⟩))))
theorem Jd {m:Tab} (hm:m.Ok c) (b:Nat) (i s:Int):Con prog 150 [pV b,.int .i64 i,.int .i64 s] Tr [Ad b 171 (kH m)] (λ_:Unit=>.tuple #[]) Tr (λ_=>[Ad b 171 (kH (kJ m i s))]):=by
 intro w hE hH
 by_cases hi:0<=i/\i<m.n
 .obtain⟨k,rfl⟩:=kT hi.1
  have hk:k<m.n:=by omega
  have h8:=hm.n8
  refine enter (n:=32) (vs:=[pV b,.int .i64 k,.int .i64 s]) (St w [b] [Ad b 171 (kH m)]) func150 I I I (St.init hH) ?_
  refine Af (Cs I (Mv 2 I (l_e I (Bf (J1 hm b k) I I I call151 I Tt (λ_ _=>Lq I (Qt I) (Lm I (Sb 10 false I (by simp;omega) (Mv 3 I (Lfa Hu I sizeOf168 I (Lq I (Be k I underlying168 sizeOf167 I I I) (Lq I (Al I isAgg167 I (Hat 0 I) (X4 hm (k:=k) (by omega) (by simp))) (Mv 2 I (Nk (CB 18 I (λh=>?_) (λh=>?_)))))))))))))))
  .have hT:kJ m k s=m:=by unfold kJ;rw[lz (λhh=>hh.2.2 h)]
   exact Ah I (Ag (Ac (BB I (λ_ h=>⟨(),rfl,T0,by rw[hT];exact h⟩))))
  .refine Aa I (Ae (Kt (Cs I (Mv 4 I (Lfa Hu I sizeOf168 I (Lq I (Be k I underlying168 sizeOf167 I I I) (l_e I (AG I I sizeOf167 I I I (by rw[GZ hm];show 0+1+k*1<26;omega) (AR (gi hm s (k:=k) (by omega) (by simp)) (Nk (Cs I (Mv 2 I (Nk (CB 26 I (λh2=>?_) (λh2=>?_)))))))))))))))
   .have hm1:Tab.Ok {m with st:=m.st.set k s} c:=⟨hm.n1,hm.n8,by simp[hm.st],hm.wt,hm.pk,hm.wt0,hm.pk0,hm.w0⟩
    have hT:kJ m k s={m with st:=m.st.set k s,wt:=m.wt.set k 0}:=by unfold kJ;rw[lu ⟨hi.1,hi.2,by simpa using h⟩,lz h2];rfl
    exact Ah I (Cr I (Mv 3 I (Lfa Hu I OX I (Lq I (Be k I OY Z3 I I I) (l_e I (AG I I Z3 I I I (by rw[GZ hm1];show 0+9+k*1<26;omega) (AR (RU hm1 0 (k:=k) hk (by simp)) (AB (Bp (BB I (λ_ h=>⟨(),rfl,T0,by rw[hT];exact h⟩)))))))))))
   .have hT:kJ m k s={m with st:=m.st.set k s}:=by unfold kJ;rw[lu ⟨hi.1,hi.2,by simpa using h⟩,lu h2];rfl
    exact Aa I (Ae (Bp (BB I (λ_ h=>⟨(),rfl,T0,by rw[hT];exact h⟩))))
 .have hT:kJ m i s=m:=by unfold kJ;rw[lz (λhh=>hi ⟨hh.1,hh.2.1⟩)]
  refine enter (n:=32) (vs:=[pV b,.int .i64 i,.int .i64 s]) (St w [b] [Ad b 171 (kH m)]) func150 I I I (St.init hH) ?_
  exact Af (Cs I (Mv 2 I (l_e I (Bf (J1 hm b i) I I I call151 I Tt (λ_ _=>Lq I (Qt I) (Lm I (Sb 10 true I (by simp only[nr,m5];exact hi) (Mv 8 I (Nk (Ah I (Ag (Ac (BB I (λ_ h=>⟨(),rfl,T0,by rw[hT];exact h⟩))))))))))))))
theorem block_spec {m:Tab} (hm:m.Ok c) (b:Nat) (i:Int):Con prog 94 [pV b,.int .i64 i] Tr [Ad b 171 (kH m)] (λ_:Unit=>.tuple #[]) Tr (λ_=>[Ad b 171 (kH (kJ m i 1))]):=by
 intro w hE hH
 refine enter (n:=7) (vs:=[pV b,.int .i64 i]) (St w [b] [Ad b 171 (kH m)]) func94 I I I (St.init hH) ?_
 exact Cr I (Mv 2 I (l_e I (Bf (Jd hm b i 1) I I I call150 I Tt (λ_ _=>AB (Bp (BB I (λ_ h=>⟨(),rfl,T0,h⟩)))))))
theorem wake_spec {m:Tab} (hm:m.Ok c) (b:Nat) (i:Int):Con prog 92 [pV b,.int .i64 i] Tr [Ad b 171 (kH m)] (λ_:Unit=>.tuple #[]) Tr (λ_=>[Ad b 171 (kH (kJ m i 0))]):=by
 intro w hE hH
 refine enter (n:=7) (vs:=[pV b,.int .i64 i]) (St w [b] [Ad b 171 (kH m)]) func92 I I I (St.init hH) ?_
 exact Cr I (Mv 2 I (l_e I (Bf (Jd hm b i 0) I I I call150 I Tt (λ_ _=>AB (Bp (BB I (λ_ h=>⟨(),rfl,T0,h⟩)))))))
theorem end_spec {m:Tab} (hm:m.Ok c) (b:Nat) (i:Int):Con prog 93 [pV b,.int .i64 i] Tr [Ad b 171 (kH m)] (λ_:Unit=>.tuple #[]) Tr (λ_=>[Ad b 171 (kH (kJ m i 2))]):=by
 intro w hE hH
 refine enter (n:=7) (vs:=[pV b,.int .i64 i]) (St w [b] [Ad b 171 (kH m)]) func93 I I I (St.init hH) ?_
 exact Cr I (Mv 2 I (l_e I (Bf (Jd hm b i 2) I I I call150 I Tt (λ_ _=>AB (Bp (BB I (λ_ h=>⟨(),rfl,T0,h⟩)))))))
theorem wait_spec {m:Tab} (hm:m.Ok c) (b:Nat) (i:Int):Con prog 95 [pV b,.int .i64 i] Tr [Ad b 171 (kH m)] (λ_:Unit=>.int .i64 (if 0<=i/\i<m.n then m.wt.getD i.toNat 0 else 0)) Tr (λ_=>[Ad b 171 (kH m)]):=by
 intro w hE hH
 by_cases hi:0<=i/\i<m.n
 .obtain⟨k,rfl⟩:=kT hi.1
  have hk:k<m.n:=by omega
  have h8:=hm.n8
  refine enter (n:=15) (vs:=[pV b,.int .i64 k]) (St w [b] [Ad b 171 (kH m)]) func95 I I I (St.init hH) ?_
  exact Cs I (Ak I (Af (Cs I (Mv 2 I (l_e I (Bf (J1 hm b k) I I I call151 I Tt (λ_ _=>Lq I (Qt I) (Nk (Sb 8 false I (by simp;omega) (Aa I (Ae (Kt (Cs I (Mv 3 I (Lfa Hu I OX I (Lq I (Be k I OY Z3 I I I) (Lq I (Al I G3 I (Hat 0 I) (RT hm (k:=k) (by omega) (by simp))) (Ak I (Ag (Ao I I (λ_ h=>⟨(),by rw[lu hi];rfl,T0,h⟩)))))))))))))))))))))
 .refine enter (n:=15) (vs:=[pV b,.int .i64 i]) (St w [b] [Ad b 171 (kH m)]) func95 I I I (St.init hH) ?_
  exact Cs I (Ak I (Af (Cs I (Mv 2 I (l_e I (Bf (J1 hm b i) I I I call151 I Tt (λ_ _=>Lq I (Qt I) (Nk (Sb 8 true I (by simp only[nr,m5];exact hi) (Ah I (Cs I (Ak I (Ag (Ac (Ao I I (λ_ h=>⟨(),by rw[lz hi],T0,h⟩))))))))))))))))
theorem runnable_spec {m:Tab} (hm:m.Ok c) (b:Nat):Con prog 76 [pV b] Tr [Ad b 171 (kH m)] (λv:Value=>v) Tr (λv=>[AA v 3 (AH .i64) (nints (kG m)),Ad b 171 (kH m)]):=by
 intro w hE hH
 have h8:=hm.n8
 refine enter (n:=28) (vs:=[pV b]) (St w [b] [Ad b 171 (kH m)]) func76 I I I (St.init hH) ?_
 refine Cs I (Ak I (Cs I (Ak I (Af (Af (Do8 (rg 10) 0 _ I St.drawn Ih (Md 2 I (Dfa Hu I sizeOf168 I (Md 2 I (Dfa Hu I Z3 I (Dq I (Al I G3 I (Hat 0 I) I) (Dq I (Ew m.n I underlying168 sizeOf167 I I I (by omega)) (Dq I (EL I underlying224 I) (Dm I (AL (Kt (Aj (row0 3 (AH .i64) none ?_))))))))))))))))))
 refine Cy (λ(k:Nat) (v:Value)=>[(3,v),(13,.slice (some ⟨b,0+1,none⟩) m.n 8),(14,.int .i64 (m.n:Int)),(15,.int .i64 (k:Int))]) (λ(k:Nat) (v:Value)=>St w [b] [AA v 3 (AH .i64) (Hh m k),Ad b 171 (kH m)]) (λ(k:Nat) (v:Value)=>k<=m.n) (λ(k:Nat) (v:Value)=>m.n-k) (0) (.slice none 0 0) (lK _) (Si I) Ih (λk v hk=>Cs I (Lq I (Ql I) (Ns ?_)))
 refine CB 16 I (λh=>?_) (λh=>?_)
 .have hlen:=Vn m k
  refine Ah I (Ae (Ks (Aj (Cs I (Lm I (Lq I (Gl k I underlying224 sizeOf167 I I I (by omega)) (Lq I (Al I isAgg167 I (Hat 1 I) (X4 hm (k:=k) (by omega) (by simp))) (Las I (Ak I (Cs I (Mv 2 I (Nk (CB 21 I (λh2=>?_) (λh2=>?_))))))))))))))
  .refine Ah I (Cr I (Mv 2 I (l_e I (Ax (sz:=1) [.tmp 23] I I I I I U22 Z3 I zeroValue3 I (λb2=>AM (l_e I (Ap U22 U22 EA I (λ_ h=>AY (h.at 1 I) (AH .i64) [(k:Int)] I I) (by simp only[lp,kQ,ob];omega) (λv2=>Bt (Vm h2) (AM (Av (Las I (AB (Aw (Kt (Cr I (Lq I (Qi I) (Lm I (AB ?_))))))))))))))))))
   exact AE ((k+1,v2)) (by dsimp only;omega) (by dsimp only;omega) (Si I) (λ_ h=>h)
  .refine Aa I (Ae (Aw (Kt (Cr I (Lq I (Qi I) (Lm I (AB ?_)))))))
   exact AE ((k+1,v)) (by dsimp only;omega) (by dsimp only;omega) (Si I) (λ_ h=>by rw[<-X5 h2];exact h)
 .have hk2:k=m.n:=by omega
  exact Aa I (AO (Ab (Ab (Am (Kt (Cs I (Lm I (Ak I (Ag (Ao I I (λ_ h=>⟨v,rfl,T0,by rw[hk2,bT] at h;exact h⟩)))))))))))
theorem pick_spec {m:Tab} (hm:m.Ok c) (hc0:c<=1000000) (b:Nat) (p:Int):Con prog 38 [pV b,.int .i64 p] Tr [Ad b 171 (kH m)] (λ_:Unit=>.tuple #[.int .i64 (whoM m p:Int),.bool (decide (kG m≠[]))]) Tr (λ_=>[Ad b 171 (kH (kD m p))]):=by
 intro w hE hH
 have h8:=hm.n8
 have hrl:=P8 m
 have hq:=RX (m:=m) p
 refine enter (n:=77) (vs:=[pV b,.int .i64 p]) (St w [b] [Ad b 171 (kH m)]) func38 I I I (St.init hH) ?_
 refine Cs I (Las I (Ak I (Cs I (Lm I (l_e I (IL (runnable_spec hm b) I I I call76 I Tt (λv _=>Ak I (Cs I (Lm I (Lq I (AJ I U22 I (Hrd 0 I)) (Ak I (Af (Cs I (Mv 2 I (Nk (CB 16 I (λh0=>?_) (λh0=>?_)))))))))))))))))
 .have h00:kG m=[]:=by simpa [nints] using h0
  have hP:kD m p=m:=by unfold kD;rw[lu h00]
  exact Ah I (Cs I (Las I (Ak I (Ag (Ac (Bg (rs:=[.tmp 4,.tmp 5]) I I (λ_ h=>⟨(),by simp[whoM,h00],T0,by rw[hP];exact h.drop⟩)))))))
 .have h00:kG m≠[]:=by simpa [nints] using h0
  have hlen:0<(kG m).length:=nZ.2 h00
  have hnl:(nints (kG m)).length=(kG m).length:=Vo _
  have hjl:=RX p h00
  have hjg:=MW (TC p h00)
  have hwl:=runM_lt (who_mem p h00)
  have b1:=Int.tmod_lt_of_pos p (show (0:Int)<((nints (kG m)).length:Int) by omega)
  have b2 : -((nints (kG m)).length:Int)<p.tmod ((nints (kG m)).length:Int):=Int.lt_tmod_of_pos p (by omega)
  have hrest:=Vp (p:=p) (n:=((nints (kG m)).length:Int)) (by omega)
  have hnn:=Int.emod_nonneg p (show ((kG m).length:Int)≠0 by omega)
  have hP:kD m p=Is (stepsM (whoM m p) m (kG m)) (whoM m p):=by unfold kD;rw[lz h00]
  generalize whoM m p=t at *
  refine Aa I (Ae (Kt (Cs I (Mv 3 I (Lq I (V8 I I I (by omega)) (Lm I (Lq I (Bh I I I) (Lm I (Lq I (Bm I I I) (Sv' 24 (.int .i64 ((((p%((kG m).length:Int)).toNat):Nat):Int)) I (by rw[hrest,hnl,Int.toNat_of_nonneg hnn]) (Lq I (Ar ((p%((kG m).length:Int)).toNat) I U22 Z3 I (Hrd 0 I) I I) (Lq I (AI ((p%((kG m).length:Int)).toNat) 0 I G3 I I (Hrd 0 I) hjg I) (Ak I (Af (Cs I (Lm I (Lq I (AJ I U22 I (Hrd 0 I)) (Lm I (Nk (Aj ?_))))))))))))))))))))
  refine A0 (λ(i:Nat)=>[(0,pV b),(8,.int .i64 (t:Int)),(27,v),(28,.int .i64 ((nints (kG m)).length:Int)),(29,.int .i64 (i:Int))]) (λ(i:Nat)=>St w [b] [AA v 3 (AH .i64) (nints (kG m)),Ad b 171 (kH (stepsM t m ((kG m).take i)))]) (λ(i:Nat)=>i<=(kG m).length) (λ(i:Nat)=>(kG m).length-i) (0) (lK _) (Si I) Ih (λi hi=>Cs I (Lq I (Ql I) (Ns ?_)))
  refine CB 30 I (λh1=>?_) (λh1=>?_)
  .have hi2:i<(kG m).length:=by omega
   obtain⟨x,hg⟩:∃x,(kG m)[i]?=some x:=⟨_,kY hi2⟩
   have hg2:=MW hg
   have hx:=runM_lt (mQ hg)
   have hmi:=Ir t ((kG m).take i) hm (λz hz=>runM_lt (kZ hz))
   have hni:=Iq t ((kG m).take i) m
   have hsn:=(congrArg (stepsM t m) (RW hg)).trans (RV t m _ x)
   generalize stepsM t m ((kG m).take i)=M at *
   have hwx:=hmi.wt0 x (by omega)
   have hw0:=hmi.w0
   have hxM:x<M.n:=by omega
   have hc:c+((kG m).take i).length<=4611686018427387904:=by have:=oO i (kG m);omega
   refine Ah I (Ae (Ks (Aj (Cs I (Lq I (Ar i I U22 Z3 I (Hrd 0 I) I I) (Lq I (AI i 0 I G3 I I (Hrd 0 I) hg2 I) (Ak I (Cs I (Mv 3 I (Nk (CB 35 I (λh2=>?_) (λh2=>?_))))))))))))
   .have hxt:x≠t:=by omega
    unfold EO at hsn
    rw[lz hxt] at hsn
    have hm1:Tab.Ok {M with wt:=M.wt.set x (M.wt.getD x 0+1)} (c+((kG m).take i).length+1):=by have:=TB hmi hxM t;unfold EO at this;rw[lz hxt] at this;exact⟨this.n1,this.n8,this.st,this.wt,this.pk,this.wt0,this.pk0,by simp only;omega⟩
    have hg1:(M.wt.set x (M.wt.getD x 0+1)).getD x 0=M.wt.getD x 0+1:=by rw[getD_set,lu ⟨rfl,by rw[hmi.wt];exact hxM⟩]
    refine Ah I (Af (Do8 (rg 11) 118098 _ I St.drawn Ih (Md 3 I (Dfa Hu I OX I (Dq I (Be x I OY Z3 I I I) (Dq I (Al I G3 I (Hat 1 I) (RT hmi (k:=x) hxM (by simp))) (Dq I (Bh I I I) (Dc I (Dfa Hu I OX I (Dq I (Be x I OY Z3 I I I) (AM (d_t I (AG I I Z3 I I I (by rw[GZ hmi];show 0+9+x*1<26;omega) (AR (RU hmi (M.wt.getD x 0+1) (k:=x) hxM (by simp)) (AL (Kt (Do8 (rg 15) 9565938 _ I St.drawn Ih (Md 3 I (Dfa Hu I Z3 I ?_)))))))))))))))))))
    refine Dq I (Al I G3 I (Hat 0 I) (Vk hm1 I)) (Md 3 I (Dfa Hu I OX I (Dq I (Be x I OY Z3 I I I) (Dq I (Al I G3 I (Hat 0 I) ((RT hm1 (k:=x) hxM (by simp)).trans (by show some (Value.int .i64 ((M.wt.set x (M.wt.getD x 0+1)).getD x 0))=_;rw[hg1]))) (Dq I (iq I I I) (Dc I (Dfa Hu I Z3 I (d_t I (AG I I Z3 I I I (by rw[GZ hm1];show 0+25<26;omega) (AR (Vl hm1 _ I) (AL (Aw (Kt (Cr I (Lq I (Qi I) (Lm I (AB (AM ?_))))))))))))))))))
    exact AE (i+1) (by omega) (by omega) (Si I) (λ_ h=>by rw[hsn];exact h)
   .have hxt:x=t:=by omega
    unfold EO at hsn
    rw[lu hxt] at hsn
    refine Aa I (Ae (Aw (Kt (Cr I (Lq I (Qi I) (Lm I (AB ?_)))))))
    exact AE (i+1) (by omega) (by omega) (Si I) (λ_ h=>by rw[hsn];exact h)
  .have hfin:(kG m).take i=kG m:=lI (by omega)
   have hmi:=Ir t (kG m) hm (λz hz=>runM_lt hz)
   have hni:=Iq t (kG m) m
   rw[hfin]
   unfold Is at hP
   generalize stepsM t m (kG m)=M at *
   have htM:t<M.n:=by omega
   have hpt:=hmi.pk0 t htM
   have hw0:=hmi.w0
   have hm1:Tab.Ok {M with wt:=M.wt.set t 0} (c+(kG m).length):=⟨hmi.n1,hmi.n8,hmi.st,by simp[hmi.wt],hmi.pk,λk hk=>by have:=hmi.wt0 k hk;simp only[getD_set];split<;>omega,hmi.pk0,hmi.w0⟩
   refine Aa I (AO (Ab (Ab (Am (Kt (Cs I (Mv 3 I (Lfa Hu I OX I (Lq I (Be t I OY Z3 I I I) (AM (l_e I (AG I I Z3 I I I (by rw[GZ hmi];show 0+9+t*1<26;omega) (AR (RU hmi 0 (k:=t) htM (by simp)) (Ns (Do8 (rg 11) 118098 _ I St.drawn Ih (Md 3 I (Dfa Hu I OX I (Dq I (Be t I OY Z3 I I I) (Dq I (Al I G3 I (Hat 0 I) (gh hm1 (k:=t) htM (by simp))) ?_)))))))))))))))))))
   exact Dq I (Bh I I I (by show _<=M.pk.getD t 0+1/\M.pk.getD t 0+1<=_;omega)) (Dc I (Dfa Hu I OX I (Dq I (Be t I OY Z3 I I I) (d_t I (AG I I Z3 I I I (by rw[GZ hm1];show 0+17+t*1<26;omega) (AR (gj hm1 _ (k:=t) htM (by simp)) (AL (Kt (Cs I (Mv 2 I (Ak I (Ag (Bg (rs:=[.tmp 4,.tmp 5]) I I (λ_ h=>⟨(),by rw[show decide (kG m≠[])=true from by simpa using h00],T0,by rw[hP];exact h.sublist (oQ.2 (nF _))⟩))))))))))))))
theorem new_yes {n:Nat} (h1:1<=n) (h8:n<=8):Con prog 53 [.int .i64 (n:Int)] Tr [] (λb:Nat=>.tuple #[pV b,.int .i64 0]) Tr (λb=>[Ad b 171 (kH (newM n))]):=by
 intro w hE hH
 refine E0 func53 I hH ?_
 exact Cs I (Las I (Ak I (Af (Cs I (Mv 3 I (Sf 6 I (by omega) (Lm I (Lq I (BQ I I I) (Lq I (Qz I) (Nk (Sf 9 I (by omega) (Aa I (Ae (Kt (Cs I (Lm I (Lq I (AP (.int .i64 (n:Int)::List.replicate 25 (.int .i64 0)) I I (λw=>by kernel_rfl)) (l_e I (AT I I I I (λb=>AR (bX h8).symm (Las I (Ak I (Ag (Bg (rs:=[.tmp 2,.tmp 3]) I I (λ_ h=>⟨b,rfl,T0,h⟩)))))))))))))))))))))))))
end Go.Proofs.YtloldofjddbjoaaGreat.Sc
namespace Go.Proofs.YtloldofjddbjoaaGreat
open Go.Sep Go.RowKit Tryz
variable {B C nb nf i fl n:Nat} {x:HQ} {t u p:Int} {ls:List (List Opn)} {vs:List Sv} {w b:Bool} {α:Type} {vo va:Value}
structure GH (x:HQ) (L:Hm) (B:Nat):Prop where
 ok:x.Ok B
 hm:x.hm=L
theorem GH.mono {L:Hm} (h:GH x L B) (hBC:B<=C) (hC:C<=60000):GH x L C:=⟨h.ok.mono hBC hC,h.hm⟩
def Hm.look (L:Hm):Nd:=match L.M.frI 0 2 with
 |some i=>(L.M.at' i).nd
 |none=>ndL
structure DK (L:Hm):Prop where
 line:L.M.line=[]
 sm:L.look.Sm 50000
 us:L.s.us[0]?=some true
 bl:L.M.frI 0 2=none->∃bk,L.s.bl[0]?=some bk/\bk.l=DH
inductive Tk where
 |c (b:Nat)
 |f (b:Nat)
 |e
def Tk.v:Tk->Value
 |.c b=>.iface 103 (ptV b)
 |.f b=>.iface 108 (.agg #[ptV b])
 |.e=>.iface 111 (.agg #[])
def Tk.enc:Enc Tk:=⟨1,λt=>[t.v],λ_=>rfl,λa u h=>by simp at h;subst h;cases a<;>rfl,by decide⟩
abbrev FLE (b:Nat) (t:Int):Ent:=Ad b 179 [.int .i64 t,.int .i64 1,.bool false,.bool false,.pointer none,.int .i64 0,.int .i64 0]
def CLs:Nat->List CC->List Ent
 |_,[]=>[]
 |k,c::cs=>c.H (k:Int)++CLs (k+1) cs
def CLo:Nat->Nat->List CC->List Ent
 |_,_,[]=>[]
 |k,0,_::cs=>CLs (k+1) cs
 |k,i+1,c::cs=>c.H (k:Int)++CLo (k+1) i cs
def FLs:Nat->List Nat->List Ent
 |_,[]=>[]
 |k,b::bs=>FLE b (k:Int)::FLs (k+1) bs
def FLo:Nat->Nat->List Nat->List Ent
 |_,_,[]=>[]
 |k,0,_::bs=>FLs (k+1) bs
 |k,i+1,b::bs=>FLE b (k:Int)::FLo (k+1) i bs
theorem Og:∀{cs:List CC} {k i:Nat} {c:CC},cs[i]?=some c->(CLs k cs).Perm (c.H ((k+i:Nat):Int)++CLo k i cs)
 |[],k,i,c,h=>by simp at h
 |x::cs,k,0,c,h=>by simp at h;subst h;exact oe _
 |x::cs,k,i+1,c,h=>by
  have ih:=Og (cs:=cs) (k:=k+1) (i:=i) (c:=c) (by simpa using h)
  rw[show k+1+i=k+(i+1) by omega] at ih
  exact (ih.append_left (x.H (k:Int))).trans (pe _ _ _)
theorem dZ:∀{cs:List CC} {k i:Nat} (c:CC),i<cs.length->(c.H ((k+i:Nat):Int)++CLo k i cs).Perm (CLs k (cs.set i c))
 |[],k,i,c,h=>by simp at h
 |x::cs,k,0,c,h=>oe _
 |x::cs,k,i+1,c,h=>by
  have ih:=dZ (cs:=cs) (k:=k+1) (i:=i) c (by simpa using h)
  rw[show k+1+i=k+(i+1) by omega] at ih
  exact (pe _ _ _).trans (ih.append_left (x.H (k:Int)))
theorem X9:∀{bs:List Nat} {k i:Nat} {b:Nat},bs[i]?=some b->(FLs k bs).Perm (FLE b ((k+i:Nat):Int)::FLo k i bs)
 |[],k,i,c,h=>by simp at h
 |x::cs,k,0,c,h=>by simp at h;subst h;exact oe _
 |x::cs,k,i+1,c,h=>by
  have ih:=X9 (bs:=cs) (k:=k+1) (i:=i) (b:=c) (by simpa using h)
  rw[show k+1+i=k+(i+1) by omega] at ih
  exact (ih.cons (FLE x (k:Int))).trans (List.Perm.swap _ _ _)
structure HC where
 bH:Nat
 bt:Nat
 vT:Value
 vO:Value
 vE:Value
 cc:List CC
 fl:List Nat
 x:HQ
structure HM where
 L:Hm
 cs:List Cl
 nf:Nat
 sq:Int
 pk:Nat
 ev:List Evt
 T:Sc.Tab
def HC.tks (h:HC):List Tk:=h.cc.map (λc=>Tk.c c.b)++(h.fl.map Tk.f++[Tk.e])
abbrev HC.tl (h:HC):List Ent:=CLs 0 h.cc++(FLs h.cc.length h.fl++h.x.H)
abbrev HC.H (h:HC) (m:HM):List Ent:=HSE h.bH (ptV h.x.bh) h.bt h.vT h.vO h.vE m.sq m.pk::AA h.vE 71 Evt.enc m.ev::AA h.vT 102 Tk.enc h.tks::Ad h.bt 171 (Sc.kH m.T)::h.tl
structure HOk (h:HC) (m:HM) (B:Nat):Prop where
 lh:GH h.x m.L B
 cs:h.cc.map CC.m=m.cs
 nf:h.fl.length=m.nf
 tn:m.T.n=m.cs.length+(m.nf+1)
 tok:m.T.Ok ((B*10:Nat):Int)
 n8:m.cs.length+(m.nf+1)<=8
 ol:∀c∈m.cs,c.ops.length<=1000/\c.nx<=c.ops.length/\(c.ph.isI=false->c.nx<c.ops.length)
 ev:m.ev.length<=B
 sq:1<=m.sq/\m.sq<=B+1
 pk:m.pk<=B
theorem HOk.len {h:HC} {m:HM} (k:HOk h m B):h.cc.length=m.cs.length:=by rw[<-k.cs,mB]
theorem HOk.tlen {h:HC} {m:HM} (k:HOk h m B):h.tks.length=m.T.n:=by
 unfold HC.tks
 rw[k.tn]
 simp[k.len,k.nf]
theorem HOk.at {h:HC} {m:HM} (k:HOk h m B) {i:Nat} {c:CC} (hc:h.cc[i]?=some c):m.cs[i]?=some c.m:=by rw[<-k.cs,lS,hc];rfl
theorem HOk.tk {h:HC} {m:HM} (k:HOk h m B) {i:Nat} {a:Tk} (ha:h.tks[i]?=some a):(∃c,h.cc[i]?=some c/\a=Tk.c c.b)\/(∃b,m.cs.length<=i/\h.fl[i-m.cs.length]?=some b/\a=Tk.f b)\/(m.cs.length+m.nf=i/\a=Tk.e):=by
 unfold HC.tks at ha
 by_cases h1:i<h.cc.length
 .rw[lq (by simpa using h1),lS] at ha
  obtain⟨c,hc⟩:∃c,h.cc[i]?=some c:=⟨_,kY h1⟩
  rw[hc] at ha;cases ha
  exact .inl ⟨c,hc,rfl⟩
 .rw[lx (by simp;omega),mB] at ha
  by_cases h2:i-h.cc.length<h.fl.length
  .rw[lq (by simpa using h2),lS] at ha
   obtain⟨b,hb⟩:∃b,h.fl[i-h.cc.length]?=some b:=⟨_,kY h2⟩
   rw[hb] at ha;cases ha
   rw[k.len] at hb h1
   exact .inr (.inl ⟨b,by omega,hb,rfl⟩)
  .rw[lx (by simp;omega),mB] at ha
   have h3:i-h.cc.length-h.fl.length=0:=by
    have:=(lR.1 ha).1
    simp at this;omega
   rw[h3] at ha;cases ha
   rw[k.nf] at h2 h3
   rw[k.len] at h1 h2 h3
   exact .inr (.inr ⟨by omega,rfl⟩)
theorem Oh (a b c d:Ent) (C C' F X:List Ent):(a::b::c::d::((C++C')++(F++X))).Perm ((a::b::(C++X))++(c::d::(C'++F))):=by
 refine List.Perm.cons a (List.Perm.cons b (List.Perm.trans ?_ (og (l₁:=c::d::(C'++F)) (l₂:=C++X))))
 show (c::d::_).Perm (c::d::((C'++F)++(C++X)))
 refine List.Perm.cons c (List.Perm.cons d ?_)
 rw[mj,mj]
 exact (pe C C' (F++X)).trans ((pe C F X).append_left C')
theorem RY (a b c d:Ent) (Y:List Ent):(a::b::c::d::Y).Perm (a::c::b::d::Y):=List.Perm.cons a (List.Perm.swap _ _ _)
theorem gk (a b c d:Ent) (C F X:List Ent):(a::b::c::d::(C++(F++X))).Perm ((a::c::X)++(b::d::(C++F))):=by
 refine (RY a b c d _).trans (List.Perm.cons a (List.Perm.cons c (List.Perm.trans ?_ (og (l₁:=b::d::(C++F)) (l₂:=X)))))
 show (b::d::_).Perm (b::d::((C++F)++X))
 rw[mj]
def mayC (t:Int) (L:Hm) (c:Cl):Bool:=match c.ph with
 |.idle=>!decide (c.nx=c.ops.length)
 |_=>L.may t
def mayI (m:HM) (i:Nat):Bool:=match m.cs[i]? with
 |some c=>mayC (i:Int) m.L c
 |none=>decide (i<m.cs.length+m.nf)&&DF m.L.look
def stI (m:HM) (i:Nat):Int:=if mayI m i=true then 0 else match m.cs[i]? with
 |some c=>if c.ended=true then 2 else 1
 |none=>1
def kC (m:HM):Nat->Sc.Tab->Sc.Tab
 |0,T=>T
 |k+1,T=>Sc.kJ (kC m k T) (k:Int) (stI m k)
theorem tellT_n (m:HM):∀(k:Nat) (T:Sc.Tab),(kC m k T).n=T.n
 |0,T=>rfl
 |k+1,T=>by show (Sc.kJ _ _ _).n=_;rw[Sc.turn_n,tellT_n m k T]
theorem tellT_ok (m:HM) {c:Int}:∀(k:Nat) {T:Sc.Tab},T.Ok c->(kC m k T).Ok c
 |0,T,h=>h
 |k+1,T,h=>Sc.turn_ok (tellT_ok m k h) _ _
theorem jh (b:Nat) (t:Int):Con prog 147 [ptV b] Tr [FLE b t] (λ_:Unit=>.bool true) Tr (λ_=>[FLE b t]):=by
 intro w hE hH
 refine Ey func147 I hH ?_
 exact Cs I (Ak I (Cs I (Mv 2 I (Lfa underlying179 I Z3 I (Lo G3 0 I (Mv 2 I (Sb 8 true I (I) (Mv 2 I (Lfa underlying179 I Z4 I (Lo G4 0 I (Mv 2 I (Ak I (Ag (Ao I I (λ_ h=>⟨(),rfl,T0,h⟩)))))))))))))))
theorem Ya (h:x.Ok B) (hQ:DK x.hm):Con prog 71 [ptV x.bh,.int .i64 0] Tr x.H (λs:N4=>.tuple #[.agg (⟨s,x.hm.look⟩:NV).c.toArray,.bool true]) Tr (λs=>Bz (⟨s,x.hm.look⟩:NV)++x.H):=by
 cases hf:x.q.M.frI 0 2 with
 |some i =>
  have e:x.hm.look=(x.q.M.at' i).nd:=by unfold Hm.look;rw[show x.hm.M.frI 0 2=some i from hf];rfl
  rw[e];exact dW h hf
 |none =>
  have e:x.hm.look=ndL:=by unfold Hm.look;rw[show x.hm.M.frI 0 2=none from hf]
  obtain⟨bk,hb,hl⟩:=hQ.bl hf
  rw[e];exact fM h (k:=0) hQ.us hf hb (by rw[hl];exact I9)
theorem jX (h:x.Ok B) (hQ:DK x.hm):Con prog 148 [ptV x.bh] Tr (x.H) (λ_:Unit=>.bool (DF x.hm.look)) Tr (λ_=>x.H):=by
 intro w hE hH
 refine Ey func148 I hH (Cs I (Ak I (Cs I (Lm I (l_e I (Ee [] (Ya h hQ) I call71 Tt (λs _=>Pw (St _ _ (_::_::_::_::HQ.H (x))) ?_)))))))
 exact Mv 3 I (l_e I (Au I I I zeroValue135 (λbn=>Ce nv0.c I (l_e I (SW AU I (NV.one _) (Ak I (Cs I (Mv 2 I (Lq I (Cq ((⟨s,x.hm.look⟩:NV).c) Bx AU 0 I (I) (I)) (l_e I (E1 (PN (⟨s,x.hm.look⟩:NV) hQ.sm) I call136 (λ_ h=>⟨h.rd 1 rfl,h.rd 2 rfl,h.rd 3 rfl,h.rd 4 rfl⟩) (λ_ _=>Lq I (Qy I) (Ak I (Ag (Av (Av (Av (Av (Av (Ao I I (λ_ h=>⟨(),rfl,T0,h⟩)))))))))))))))))))))
theorem ji {L:Hm} (h:GH x L B) (hQ:DK L) (bH bt:Nat) (vT vO vE:Value) (sq pk:Int) (tks:List Tk) (i:Nat) (hi:tks.length<=8) (b nx:Nat) (vo:Value) (ops:List Opn) (more:List Ent) (hk:tks[i]?=some (.c b)):Con prog 91 [ptV bH,.int .i64 (i:Int)] Tr (HSE bH (ptV x.bh) bt vT vO vE sq pk::AA vT 102 Tk.enc tks::CLE b vo nx [.pointer none,.pointer none]::AA vo 43 Opn.enc ops::(more++x.H)) (λ_:Unit=>.bool (!decide (nx=ops.length))) Tr (λ_=>HSE bH (ptV x.bh) bt vT vO vE sq pk::AA vT 102 Tk.enc tks::CLE b vo nx [.pointer none,.pointer none]::AA vo 43 Opn.enc ops::(more++x.H)):=by
 intro w hE hH
 have hkl:=(lR.1 hk).1
 obtain⟨h,rfl⟩:=h
 refine Ey func91 I hH (Cs I (Ak I (Af (Cs I (Mv 2 I (Lfa Cn I Z98 I (Lo G98 0 I (Lm I (Lq I (Ar i I U98 Hv I (Hrd 1 I) I I) (Lq I (AI i 0 I JM I I (Hrd 1 I) hk I) (Nk (Aj (Cs I (Lq rfl (Cz rfl IP (λ_ h=>by cases h) rfl) (Mv 2 I (Nk (Ah I (Cs I (Ak I (Af (Cs I (Lm I ?_))))))))))))))))))))))
 exact AX (l_e I (Bf (Tx b 0 nx vo) I I I call75 I Tt (λ_ _=>Nk (Aa I (Ae (Kt (Cs I (Lm I (Pm [0,2] I (l_e I (GP (P6 b 0 nx vo ops) I I I call37 I Tt (λ_ _=>Lq I (Qt I) (Ak I (Ag (As (Ac (Pm [2,2] I (Ao I I (λ_ h=>⟨(),rfl,T0,h⟩)))))))))))))))))))
theorem jj {L:Hm} (h:GH x L B) (hQ:DK L) (bH bt:Nat) (vT vO vE:Value) (sq pk:Int) (tks:List Tk) (i:Nat) (hi:tks.length<=8) (b bw nx:Nat) (vo:Value) (ops:List Opn) (more:List Ent) (hk:tks[i]?=some (.c b)):Con prog 91 [ptV bH,.int .i64 (i:Int)] Tr (HSE bH (ptV x.bh) bt vT vO vE sq pk::AA vT 102 Tk.enc tks::CLE b vo nx [ptV bw,.pointer none]::AA vo 43 Opn.enc ops::(more++x.H)) (λ_:Unit=>.bool (L.may (i:Int))) Tr (λ_=>HSE bH (ptV x.bh) bt vT vO vE sq pk::AA vT 102 Tk.enc tks::CLE b vo nx [ptV bw,.pointer none]::AA vo 43 Opn.enc ops::(more++x.H)):=by
 intro w hE hH
 have hkl:=(lR.1 hk).1
 obtain⟨h,rfl⟩:=h
 refine Ey func91 I hH (Cs I (Ak I (Af (Cs I (Mv 2 I (Lfa Cn I Z98 I (Lo G98 0 I (Lm I (Lq I (Ar i I U98 Hv I (Hrd 1 I) I I) (Lq I (AI i 0 I JM I I (Hrd 1 I) hk I) (Nk (Aj (Cs I (Lq rfl (Cz rfl IP (λ_ h=>by cases h) rfl) (Mv 2 I (Nk (Ah I (Cs I (Ak I (Af (Cs I (Lm I ?_))))))))))))))))))))))
 refine AX (l_e I (Bf (XY b bw nx vo) I I I call75 I Tt (λ_ _=>Nk (Ah I (Cs I (Mv 2 I (Lfa Cn I Z47 I (Lo G47 1 I (Lm I (Pm [1,1] I (l_e I (Ee (_::_::_::_::more) (Ha h (i:Int)) I call82 Tt (λ_ _=>Pw (St _ _ (_::_::_::_::(more++x.H))) ?_)))))))))))))
 exact Ak I (Ag (Ac (As (Ac (Ao I I (λ_ h=>⟨(),rfl,T0,h⟩))))))
theorem jk {L:Hm} (h:GH x L B) (hQ:DK L) (bH bt:Nat) (vT vO vE:Value) (sq pk:Int) (tks:List Tk) (i:Nat) (hi:tks.length<=8) (b bw nx:Nat) (vo:Value) (ops:List Opn) (more:List Ent) (hk:tks[i]?=some (.c b)):Con prog 91 [ptV bH,.int .i64 (i:Int)] Tr (HSE bH (ptV x.bh) bt vT vO vE sq pk::AA vT 102 Tk.enc tks::CLE b vo nx [.pointer none,ptV bw]::AA vo 43 Opn.enc ops::(more++x.H)) (λ_:Unit=>.bool (L.may (i:Int))) Tr (λ_=>HSE bH (ptV x.bh) bt vT vO vE sq pk::AA vT 102 Tk.enc tks::CLE b vo nx [.pointer none,ptV bw]::AA vo 43 Opn.enc ops::(more++x.H)):=by
 intro w hE hH
 have hkl:=(lR.1 hk).1
 obtain⟨h,rfl⟩:=h
 refine Ey func91 I hH (Cs I (Ak I (Af (Cs I (Mv 2 I (Lfa Cn I Z98 I (Lo G98 0 I (Lm I (Lq I (Ar i I U98 Hv I (Hrd 1 I) I I) (Lq I (AI i 0 I JM I I (Hrd 1 I) hk I) (Nk (Aj (Cs I (Lq rfl (Cz rfl IP (λ_ h=>by cases h) rfl) (Mv 2 I (Nk (Ah I (Cs I (Ak I (Af (Cs I (Lm I ?_))))))))))))))))))))))
 refine AX (l_e I (Bf (XZ b bw nx vo) I I I call75 I Tt (λ_ _=>Nk (Ah I (Cs I (Mv 2 I (Lfa Cn I Z47 I (Lo G47 1 I (Lm I (Pm [1,1] I (l_e I (Ee (_::_::_::_::more) (Ha h (i:Int)) I call82 Tt (λ_ _=>Pw (St _ _ (_::_::_::_::(more++x.H))) ?_)))))))))))))
 exact Ak I (Ag (Ac (As (Ac (Ao I I (λ_ h=>⟨(),rfl,T0,h⟩))))))
theorem jl {L:Hm} (h:GH x L B) (hQ:DK L) (bH bt:Nat) (vT vO vE:Value) (sq pk:Int) (tks:List Tk) (i:Nat) (hi:tks.length<=8) (b:Nat) (t:Int) (hk:tks[i]?=some (.f b)):Con prog 91 [ptV bH,.int .i64 (i:Int)] Tr (HSE bH (ptV x.bh) bt vT vO vE sq pk::AA vT 102 Tk.enc tks::FLE b t::x.H) (λ_:Unit=>.bool (DF L.look)) Tr (λ_=>HSE bH (ptV x.bh) bt vT vO vE sq pk::AA vT 102 Tk.enc tks::FLE b t::x.H):=by
 intro w hE hH
 have hkl:=(lR.1 hk).1
 obtain⟨h,rfl⟩:=h
 refine Ey func91 I hH (Cs I (Ak I (Af (Cs I (Mv 2 I (Lfa Cn I Z98 I (Lo G98 0 I (Lm I (Lq I (Ar i I U98 Hv I (Hrd 1 I) I I) (Lq I (AI i 0 I JM I I (Hrd 1 I) hk I) (Nk (Aj (Cs I (Lq rfl (CN rfl IP (λ_ h=>by cases h) rfl (by decide) zeroValue103) (Mv 2 I (Nk (Aa I (Cs I (Lq rfl (Cz rfl ZT (λ_ h=>by cases h) rfl) (Mv 2 I (Nk ?_)))))))))))))))))))))
 refine Ah I (Cs I (l_e I (Au I I I zeroValue108 (λbf=>Ce [.pointer none] I (l_e I (Az rfl rfl sizeOf108 rfl rfl rfl (by intro v hv;simp at hv;subst hv;rfl) (ng rfl) (Ce [ptV b] I (Ns (Cs I (Lfa ZT I sizeOf106 I (Lo isAgg106 0 I (D3 (l_e I (Bf (jh b t) I I I call147 I Tt (λ_ _=>Nk (Ah I (Cs I (Mv 2 I (Lfa Cn I Z47 I (Lo G47 2 I (Pm [1,1,1] I (l_e I (Ee [_,_,_,_] (jX h hQ) I call148 Tt (λ_ _=>Pw (St _ _ (_::_::_::_::HQ.H (x))) ?_))))))))))))))))))))))))
 exact Ak I (Ag (Ac (As (Ac (Av (Ao I I (λ_ h=>⟨(),rfl,T0,h⟩)))))))
theorem jm {L:Hm} (h:GH x L B) (hQ:DK L) (bH bt:Nat) (vT vO vE:Value) (sq pk:Int) (tks:List Tk) (i:Nat) (hi:tks.length<=8) (hk:tks[i]?=some .e):Con prog 91 [ptV bH,.int .i64 (i:Int)] Tr (HSE bH (ptV x.bh) bt vT vO vE sq pk::AA vT 102 Tk.enc tks::x.H) (λ_:Unit=>.bool false) Tr (λ_=>HSE bH (ptV x.bh) bt vT vO vE sq pk::AA vT 102 Tk.enc tks::x.H):=by
 intro w hE hH
 have hkl:=(lR.1 hk).1
 obtain⟨h,rfl⟩:=h
 refine Ey func91 I hH (Cs I (Ak I (Af (Cs I (Mv 2 I (Lfa Cn I Z98 I (Lo G98 0 I (Lm I (Lq I (Ar i I U98 Hv I (Hrd 1 I) I I) (Lq I (AI i 0 I JM I I (Hrd 1 I) hk I) (Nk (Aj (Cs I (Lq rfl (CN rfl IP (λ_ h=>by cases h) rfl (by decide) zeroValue103) (Mv 2 I (Nk (Aa I (Cs I (Lq rfl (CN rfl ZT (λ_ h=>by cases h) rfl (by decide) zeroValue108) (Mv 2 I (Nk ?_)))))))))))))))))))))
 refine Aa I (Ae (Aw (Kt (Cs I (Mv 2 I (Lfa Cn I Z47 I (Lo G47 0 I (Lc I (Lfa U91 I Z86 I (Lo G86 2 I (l_e I (Ee [_,_] (dS h) I call99 Tt (λv _=>Pw (St _ _ (_::_::_::HQ.H (x))) ?_)))))))))))))
 exact Lq I (AJ I U22 I (Hrd 2 I)) (Lq I (BQ I I I) (Lm I (Sb 55 false I (by rw[show x.q.M.line=[] from hQ.line];rfl) (Mv 7 I (Ak I (Ag (Pm [2] I (Av (Ao I I (λ_ h=>⟨(),rfl,T0,h⟩))))))))))
theorem K9 {h:HC} {m:HM} (k:HOk h m B) (hQ:DK m.L) {i:Nat} (hi:i<m.T.n):Con prog 91 [ptV h.bH,.int .i64 (i:Int)] Tr (h.H m) (λ_:Unit=>.bool (mayI m i)) Tr (λ_=>h.H m):=by
 obtain⟨a,ha⟩:∃a,h.tks[i]?=some a:=⟨_,kY (by rw[k.tlen];exact hi)⟩
 have h8:h.tks.length<=8:=by rw[k.tlen,k.tn];exact k.n8
 rcases k.tk ha with⟨c,hc,rfl⟩|⟨b,hb,hfb,rfl⟩|⟨he,rfl⟩
 .have hm:mayI m i=mayC (i:Int) m.L c.m:=by unfold mayI;rw[k.at hc]
  rw[hm]
  have hp:(h.H m).Perm ((HSE h.bH (ptV h.x.bh) h.bt h.vT h.vO h.vE m.sq m.pk::AA h.vT 102 Tk.enc h.tks::(c.H (i:Int)++h.x.H))++(AA h.vE 71 Evt.enc m.ev::Ad h.bt 171 (Sc.kH m.T)::(CLo 0 i h.cc++FLs h.cc.length h.fl))):=by
   have h1:=Og (k:=0) hc
   rw[me] at h1
   exact (RY _ _ _ _ _).trans (((((h1.append_right (FLs h.cc.length h.fl++h.x.H)).cons _).cons _).cons _).cons _ |>.trans (Oh _ _ _ _ (c.H (i:Int)) (CLo 0 i h.cc) (FLs h.cc.length h.fl) h.x.H))
  obtain⟨b,vo,bw,br,⟨ops,nx,ph⟩⟩:=c
  have go:∀(v:Bool),Con prog 91 [ptV h.bH,.int .i64 (i:Int)] Tr (HSE h.bH (ptV h.x.bh) h.bt h.vT h.vO h.vE m.sq m.pk::AA h.vT 102 Tk.enc h.tks::((⟨b,vo,bw,br,⟨ops,nx,ph⟩⟩:CC).H (i:Int)++h.x.H)) (λ_:Unit=>.bool v) Tr (λ_=>HSE h.bH (ptV h.x.bh) h.bt h.vT h.vO h.vE m.sq m.pk::AA h.vT 102 Tk.enc h.tks::((⟨b,vo,bw,br,⟨ops,nx,ph⟩⟩:CC).H (i:Int)++h.x.H))->Con prog 91 [ptV h.bH,.int .i64 (i:Int)] Tr (h.H m) (λ_:Unit=>.bool v) Tr (λ_=>h.H m):=λv s =>
   Con.pack _ s hp (λ_ _ _=>trivial) id (λ_ _=>⟨rfl,T0,[],by rw[nS];exact hp.symm⟩)
  refine go _ ?_
  cases ph with
  |idle=>exact ji k.lh hQ h.bH h.bt h.vT h.vO h.vE m.sq m.pk h.tks i h8 b nx vo ops [] ha
  |rd a=>exact jj k.lh hQ h.bH h.bt h.vT h.vO h.vE m.sq m.pk h.tks i h8 b bw nx vo ops _ ha
  |wr a=>exact jk k.lh hQ h.bH h.bt h.vT h.vO h.vE m.sq m.pk h.tks i h8 b bw nx vo ops _ ha
 .have hm:mayI m i=DF m.L.look:=by
   unfold mayI;rw[k8 (by omega)]
   show (decide (i<m.cs.length+m.nf)&&_)=_
   rw[od (by have:=(lR.1 hfb).1;have:=k.nf;omega),o9]
  rw[hm]
  have h1:=X9 (k:=h.cc.length) hfb
  have hp:(h.H m).Perm ((HSE h.bH (ptV h.x.bh) h.bt h.vT h.vO h.vE m.sq m.pk::AA h.vT 102 Tk.enc h.tks::(([FLE b ((h.cc.length+(i-m.cs.length):Nat):Int)]:List Ent)++h.x.H))++(AA h.vE 71 Evt.enc m.ev::Ad h.bt 171 (Sc.kH m.T)::(FLo h.cc.length (i-m.cs.length) h.fl++CLs 0 h.cc))):=by
   refine (RY _ _ _ _ _).trans ?_
   have h2:(CLs 0 h.cc++(FLs h.cc.length h.fl++h.x.H)).Perm ((([FLE b ((h.cc.length+(i-m.cs.length):Nat):Int)]:List Ent)++FLo h.cc.length (i-m.cs.length) h.fl)++(CLs 0 h.cc++h.x.H)) :=
    (pe _ _ _).trans (h1.append_right _)
   exact (((h2.cons _).cons _).cons _).cons _ |>.trans (Oh _ _ _ _ _ _ _ _)
  exact Con.pack _ (jl k.lh hQ h.bH h.bt h.vT h.vO h.vE m.sq m.pk h.tks i h8 b _ ha) hp (λ_ _ _=>trivial) id (λ_ _=>⟨rfl,T0,[],by rw[nS];exact hp.symm⟩)
 .have hm:mayI m i=false:=by
   unfold mayI;rw[k8 (by omega)]
   show (decide (i<m.cs.length+m.nf)&&_)=_
   rw[oc (by omega),nw]
  rw[hm]
  have hp:(h.H m).Perm ((HSE h.bH (ptV h.x.bh) h.bt h.vT h.vO h.vE m.sq m.pk::AA h.vT 102 Tk.enc h.tks::h.x.H)++(AA h.vE 71 Evt.enc m.ev::Ad h.bt 171 (Sc.kH m.T)::(CLs 0 h.cc++FLs h.cc.length h.fl))):=gk _ _ _ _ _ _ _
  exact Con.pack _ (jm k.lh hQ h.bH h.bt h.vT h.vO h.vE m.sq m.pk h.tks i h8 ha) hp (λ_ _ _=>trivial) id (λ_ _=>⟨rfl,T0,[],by rw[nS];exact hp.symm⟩)
theorem Lb {h:HC} {m:HM} (k:HOk h m B) {i:Nat} {c:CC} (hc:h.cc[i]?=some c):Con prog 37 [ptV c.b] Tr (h.H m) (λ_:Unit=>.bool c.m.ended) Tr (λ_=>h.H m):=by
 have h1:=Og (k:=0) hc
 rw[me] at h1
 have h2:(CLs 0 h.cc++(FLs h.cc.length h.fl++h.x.H)).Perm ((c.H (i:Int)++CLo 0 i h.cc)++(FLs h.cc.length h.fl++h.x.H)):=h1.append_right _
 obtain⟨b,vo,bw,br,⟨ops,nx,ph⟩⟩:=c
 have hp:(h.H m).Perm (([CLE b vo nx (⟨b,vo,bw,br,⟨ops,nx,ph⟩⟩:CC).ptrs,AA vo 43 Opn.enc ops]:List Ent)++(((⟨b,vo,bw,br,⟨ops,nx,ph⟩⟩:CC).more (i:Int)++CLo 0 i h.cc)++(FLs h.cc.length h.fl++h.x.H)++[HSE h.bH (ptV h.x.bh) h.bt h.vT h.vO h.vE m.sq m.pk,AA h.vE 71 Evt.enc m.ev,AA h.vT 102 Tk.enc h.tks,Ad h.bt 171 (Sc.kH m.T)])):=by
  refine ((((h2.cons _).cons _).cons _).cons _).trans ?_
  have h3:=og (l₁:=[HSE h.bH (ptV h.x.bh) h.bt h.vT h.vO h.vE m.sq m.pk,AA h.vE 71 Evt.enc m.ev,AA h.vT 102 Tk.enc h.tks,Ad h.bt 171 (Sc.kH m.T)]) (l₂:=(((⟨b,vo,bw,br,⟨ops,nx,ph⟩⟩:CC).H (i:Int)++CLo 0 i h.cc)++(FLs h.cc.length h.fl++h.x.H)))
  exact h3
 have go:∀(v:Bool),Con prog 37 [ptV b] Tr ([CLE b vo nx (⟨b,vo,bw,br,⟨ops,nx,ph⟩⟩:CC).ptrs,AA vo 43 Opn.enc ops]:List Ent) (λ_:Unit=>.bool v) Tr (λ_=>[CLE b vo nx (⟨b,vo,bw,br,⟨ops,nx,ph⟩⟩:CC).ptrs,AA vo 43 Opn.enc ops])->Con prog 37 [ptV b] Tr (h.H m) (λ_:Unit=>.bool v) Tr (λ_=>h.H m):=λv s =>
  Con.pack _ s hp (λ_ _ _=>trivial) id (λ_ _=>⟨rfl,T0,[],by rw[nS];exact hp.symm⟩)
 refine go _ ?_
 cases ph with
 |idle=>exact P6 b 0 nx vo ops
 |rd a=>exact bK b bw nx vo ops
 |wr a=>exact bN b bw nx vo ops
abbrev HM.setT (m:HM) (T:Sc.Tab):HM:={m with T:=T}
theorem HOk.setT {z:HC} {m:HM} (k:HOk z m B) {T:Sc.Tab} (hn:T.n=m.T.n) (ho:T.Ok ((B*10:Nat):Int)):HOk z (m.setT T) B:=⟨k.lh,k.cs,k.nf,by show T.n=_;rw[hn];exact k.tn,ho,k.n8,k.ol,k.ev,k.sq,k.pk⟩
theorem HOk.kC {z:HC} {m:HM} (k:HOk z m B) (j:Nat):HOk z (m.setT (kC m j m.T)) B:=k.setT (tellT_n m j m.T) (tellT_ok m j k.tok)
theorem ec {z:HC} {m:HM} (k:HOk z m B) (hQ:DK m.L):Con prog 42 [ptV z.bH] Tr (z.H m) (λ_:Unit=>.tuple #[]) Tr (λ_=>z.H (m.setT (kC m m.T.n m.T))):=by
 intro w hE hH
 have htl:=k.tlen
 have h8:m.T.n<=8:=by rw[k.tn];exact k.n8
 refine Ey func42 I hH (Cs I (Mv 2 I (Lfa Cn I Z98 I (Lo G98 0 I (Lq I (AJ I U98 I (Hrd 2 I)) (Lm I (Nk (Aj ?_))))))))
 refine A0 (λ(i:Nat)=>[(0,ptV z.bH),(9,z.vT),(10,.int .i64 (z.tks.length:Int)),(11,.int .i64 (i:Int))]) (λ(i:Nat)=>St w (dom (z.H m)) (z.H (m.setT (kC m i m.T)))) (λ(i:Nat)=>i<=z.tks.length) (λ(i:Nat)=>z.tks.length-i) (0) (lK _) (Si I) Ih (λi hi=>Cs I (Lq I (Ql I) (Ns ?_)))
 refine CB 12 I (λhlt=>?_) (λhlt=>?_)
 .obtain⟨a,ha⟩:=gE z.tks i
  have km:=k.kC i
  have hin:i<(m.setT (kC m i m.T)).T.n:=by rw[show (m.setT (kC m i m.T)).T.n=m.T.n from tellT_n m i m.T];omega
  rcases k.tk ha with⟨c,hc,rfl⟩|⟨b,hb,hfb,rfl⟩|⟨he,rfl⟩
  .have hcm:=k.at hc
   refine Ah I (Ae (Ks (Aj (Cs I (Lm I (Lq I (Ar i I U98 Hv I (Hrd 2 I) I I) (Lq I (AI i 0 I JM I I (Hrd 2 I) ha I) (Las I (Ak I (Cs I (Lm I (Lq rfl (Cz rfl IP (λ_ h=>by cases h) rfl) (Mv 4 I (Ak I (Aj (Cs I (Mv 2 I (l_e I (Ee [] (K9 km hQ hin) I call91 Tt (λ_ _=>Pw (St _ _ (HC.H z (m.setT (kC m i m.T)))) (Ak I (Pre.caseB 27 I (λhmy=>?_) (λhmy=>?_)))))))))))))))))))))))
   .refine Ah I (Cr I (Mv 2 I (Lfa Cn I Z97 I (Lo G97 0 I (Lm I (Pm [3] I (l_e I (Bf (Sc.wake_spec km.tok z.bt (i:Int)) I I I call92 I Tt (λ_ _=>AB (Aw (Aw (Kt (Cr I (Lq I (Qi I) (Lm I (AB (Pm [1,1,1] I ?_)))))))))))))))))
    have hst:stI m i=0:=by unfold stI;rw[lu (show mayI m i=true from hmy)]
    exact AE (i+1) (by omega) (by omega) (Si I) (λ_ h=>by
     show St w _ (HC.H z (m.setT (Sc.kJ (kC m i m.T) (i:Int) (stI m i)))) _
     rw[hst];exact h)
   .refine Aa I (Cs I (Mv 3 I (l_e I (Ee [] (Lb km hc) I call37 Tt (λ_ _=>Pw (St _ _ (HC.H z (m.setT (kC m i m.T)))) (Lq I (Qy I) (Ak I (Pre.caseB 37 I (λhen=>?_) (λhen=>?_)))))))))
    .refine Ah I (Cr I (Mv 2 I (Lfa Cn I Z97 I (Lo G97 0 I (Lm I (Pm [3] I (l_e I (Bf (Sc.end_spec km.tok z.bt (i:Int)) I I I call93 I Tt (λ_ _=>AB (Aw (Aw (Kt (Cr I (Lq I (Qi I) (Lm I (AB (Pm [1,1,1] I ?_)))))))))))))))))
     have hst:stI m i=2:=by unfold stI;rw[lz (by rw[show mayI m i=false from hmy];decide),hcm];simp only;rw[lu hen]
     exact AE (i+1) (by omega) (by omega) (Si I) (λ_ h=>by
      show St w _ (HC.H z (m.setT (Sc.kJ (kC m i m.T) (i:Int) (stI m i)))) _
      rw[hst];exact h)
    .refine Aa I (Cr I (Mv 2 I (Lfa Cn I Z97 I (Lo G97 0 I (Lm I (Pm [3] I (l_e I (Bf (Sc.block_spec km.tok z.bt (i:Int)) I I I call94 I Tt (λ_ _=>AB (Aw (Aw (Kt (Cr I (Lq I (Qi I) (Lm I (AB (Pm [1,1,1] I ?_)))))))))))))))))
     have hst:stI m i=1:=by unfold stI;rw[lz (by rw[show mayI m i=false from hmy];decide),hcm];simp only;rw[lz (by rw[hen];decide)]
     exact AE (i+1) (by omega) (by omega) (Si I) (λ_ h=>by
      show St w _ (HC.H z (m.setT (Sc.kJ (kC m i m.T) (i:Int) (stI m i)))) _
      rw[hst];exact h)
  .have hno:m.cs[i]?=none:=k8 (by omega)
   refine Ah I (Ae (Ks (Aj (Cs I (Lm I (Lq I (Ar i I U98 Hv I (Hrd 2 I) I I) (Lq I (AI i 0 I JM I I (Hrd 2 I) ha I) (Las I (Ak I (Cs I (Lm I (Lq rfl (CN rfl IP (λ_ h=>by cases h) rfl (by decide) zeroValue103) (Mv 4 I (Ak I (Aj (Cs I (Mv 2 I (l_e I (Ee [] (K9 km hQ hin) I call91 Tt (λ_ _=>Pw (St _ _ (HC.H z (m.setT (kC m i m.T)))) (Ak I (Pre.caseB 27 I (λhmy=>?_) (λhmy=>?_)))))))))))))))))))))))
   .refine Ah I (Cr I (Mv 2 I (Lfa Cn I Z97 I (Lo G97 0 I (Lm I (Pm [3] I (l_e I (Bf (Sc.wake_spec km.tok z.bt (i:Int)) I I I call92 I Tt (λ_ _=>AB (Aw (Aw (Kt (Cr I (Lq I (Qi I) (Lm I (AB (Pm [1,1,1] I ?_)))))))))))))))))
    have hst:stI m i=0:=by unfold stI;rw[lu (show mayI m i=true from hmy)]
    exact AE (i+1) (by omega) (by omega) (Si I) (λ_ h=>by
     show St w _ (HC.H z (m.setT (Sc.kJ (kC m i m.T) (i:Int) (stI m i)))) _
     rw[hst];exact h)
   .refine Aa I (Cs I (Mv 5 I (Ak I (Aa I (Cr I (Mv 2 I (Lfa Cn I Z97 I (Lo G97 0 I (Lm I (Pm [3] I (l_e I (Bf (Sc.block_spec km.tok z.bt (i:Int)) I I I call94 I Tt (λ_ _=>AB (Aw (Aw (Kt (Cr I (Lq I (Qi I) (Lm I (AB (Pm [1,1,1] I ?_)))))))))))))))))))))
    have hst:stI m i=1:=by unfold stI;rw[lz (by rw[show mayI m i=false from hmy];decide),hno]
    exact AE (i+1) (by omega) (by omega) (Si I) (λ_ h=>by
     show St w _ (HC.H z (m.setT (Sc.kJ (kC m i m.T) (i:Int) (stI m i)))) _
     rw[hst];exact h)
  .have hno:m.cs[i]?=none:=k8 (by omega)
   have hmy:mayI m i=false:=by
    unfold mayI;rw[hno];show (decide (i<m.cs.length+m.nf)&&_)=_;rw[oc (by omega),nw]
   refine Ah I (Ae (Ks (Aj (Cs I (Lm I (Lq I (Ar i I U98 Hv I (Hrd 2 I) I I) (Lq I (AI i 0 I JM I I (Hrd 2 I) ha I) (Las I (Ak I (Cs I (Lm I (Lq rfl (CN rfl IP (λ_ h=>by cases h) rfl (by decide) zeroValue103) (Mv 4 I (Ak I (Aj (Cs I (Mv 2 I (l_e I (Ee [] (K9 km hQ hin) I call91 Tt (λ_ _=>Pw (St _ _ (HC.H z (m.setT (kC m i m.T)))) ?_))))))))))))))))))))
   refine Sv' 30 (.bool false) I (by rw[show mayI (m.setT (kC m i m.T)) i=false from hmy]) (Ak I (Aa I (Cs I (Mv 5 I (Ak I (Aa I (Cr I (Mv 2 I (Lfa Cn I Z97 I (Lo G97 0 I (Lm I (Pm [3] I (l_e I (Bf (Sc.block_spec km.tok z.bt (i:Int)) I I I call94 I Tt (λ_ _=>AB (Aw (Aw (Kt (Cr I (Lq I (Qi I) (Lm I (AB (Pm [1,1,1] I ?_)))))))))))))))))))))))
   have hst:stI m i=1:=by unfold stI;rw[lz (by rw[hmy];decide),hno]
   exact AE (i+1) (by omega) (by omega) (Si I) (λ_ h=>by
    show St w _ (HC.H z (m.setT (Sc.kJ (kC m i m.T) (i:Int) (stI m i)))) _
    rw[hst];exact h)
 .have hie:i=m.T.n:=by omega
  exact Aa I (AO (Ab (Ab (Am (Bp (BB I (λ_ h=>⟨(),rfl,T0,by rw[hie] at h;exact h⟩)))))))
def HM.client (m:HM) (t:Nat):HM:=match m.cs[t]? with
 |some c=>{m with L:=(kE (t:Int) m.sq m.L c).1,cs:=m.cs.set t (kE (t:Int) m.sq m.L c).2.1,sq:=Jb (kE (t:Int) m.sq m.L c).2.2.1 m.sq,ev:=m.ev++(kE (t:Int) m.sq m.L c).2.2.2}
 |none=>m
def kF (m:HM) (p:Int):HM :=
 if Sc.kG m.T=[] then m
 else (({m with T:=Sc.kD m.T p,pk:=m.pk+1}:HM).client (Sc.whoM m.T p)).setT (kC (({m with T:=Sc.kD m.T p,pk:=m.pk+1}:HM).client (Sc.whoM m.T p)) m.T.n (Sc.kD m.T p))
def HM.Pre (m:HM):Prop:=∀t∈Sc.kG m.T,∃c,m.cs[t]?=some c/\preC (t:Int) m.sq m.L c/\(c.ph.isI=false->m.L.may (t:Int)=true)
theorem stepC_ops (t sq:Int) (L:Hm) (c:Cl):(kE t sq L c).2.1.ops=c.ops:=by
 unfold kE
 split<;>(try split)<;>rfl
theorem Yb (t sq:Int) (L:Hm) (c:Cl):(kE t sq L c).2.2.2.length<=2:=by
 unfold kE
 split<;>(try split)<;>simp
theorem stepC_nx {sq:Int} {L:Hm} {c:Cl} (hp:preC t sq L c) (hn:c.ph.isI=false->c.nx<c.ops.length):(kE t sq L c).2.1.nx<=c.ops.length/\((kE t sq L c).2.1.ph.isI=false->(kE t sq L c).2.1.nx<c.ops.length):=by
 have h1:c.nx<c.ops.length:=by
  cases hc:c.ph with
  |idle=>unfold preC at hp;rw[hc] at hp;exact hp.1
  |rd r=>exact hn (by rw[hc];rfl)
  |wr v=>exact hn (by rw[hc];rfl)
 unfold kE
 split<;>split<;>first|exact⟨Nat.le_of_lt h1,λ_=>h1⟩|exact⟨h1,λh=>by cases h⟩
theorem HOk.client {z:HC} {m:HM} (k:HOk z m B) (hB:B+1<=60000) (hev1:m.ev.length+1<=B) {t:Nat} {c:CC} (hc:z.cc[t]?=some c) (hpre:preC (t:Int) m.sq m.L c.m) {v:Value} {c':CC} {y:HQ} (h1:c'.b=c.b) (h2:c'.m=(kE (t:Int) m.sq m.L c.m).2.1) (h3:GH y (kE (t:Int) m.sq m.L c.m).1 (B+1)):HOk {z with vE:=v,cc:=z.cc.set t c',x:=y} (m.client t) (B+1):=by
 have hcm:=k.at hc
 have hm:m.client t={m with L:=(kE (t:Int) m.sq m.L c.m).1,cs:=m.cs.set t (kE (t:Int) m.sq m.L c.m).2.1,sq:=Jb (kE (t:Int) m.sq m.L c.m).2.2.1 m.sq,ev:=m.ev++(kE (t:Int) m.sq m.L c.m).2.2.2}:=by unfold HM.client;rw[hcm]
 rw[hm]
 have hl:=k.ol c.m (mQ hcm)
 refine⟨h3,?_,k.nf,?_,k.tok.mono (by omega),?_,?_,?_,?_,mf k.pk (oS B)⟩
 .show (z.cc.set t c').map CC.m=_
  rw[m4,h2,k.cs]
 .show m.T.n=(m.cs.set t _).length+(m.nf+1)
  rw[nU];exact k.tn
 .show (m.cs.set t _).length+(m.nf+1)<=8
  rw[nU];exact k.n8
 .intro d hd
  rcases oV hd with e|e
  .exact k.ol d e
  .subst e
   rw[stepC_ops]
   have:=stepC_nx hpre hl.2.2
   exact⟨hl.1,this.1,this.2⟩
 .show (m.ev++_).length<=_
  rw[lp]
  have:=Yb (t:Int) m.sq m.L c.m
  have:=k.ev
  omega
 .show 1<=Jb _ m.sq/\Jb _ m.sq<=((B+1:Nat):Int)+1
  have hs:=k.sq
  unfold Jb
  split
  .rw[SZ (by omega) (by omega)];omega
  .omega
theorem jn {l:List CC} {c c':CC} (h0:l[i]?=some c) (hb:c'.b=c.b):(l.set i c').map (λc=>Tk.c c.b)=l.map (λc=>Tk.c c.b):=by
 rw[m4,hb]
 exact lY (λj=>by
  rw[oC]
  split
  .rename_i e;subst e;split
   .rw[lS,h0];rfl
   .rename_i hn;exact absurd (by simpa using (lR.1 h0).1) hn
  .rfl)
theorem P9 {z:HC} {m:HM} (k:HOk z m B) (hB:B+1<=60000) (hev1:m.ev.length+1<=B) {t:Nat} {c:CC} (hc:z.cc[t]?=some c) (hmay:c.m.ph.isI=false->m.L.may (t:Int)=true) (hpre:preC (t:Int) m.sq m.L c.m):Con prog 39 [ptV z.bH,.int .i64 (t:Int),ptV c.b] Tr (z.H m) (λ_:HC=>.tuple #[])
 (λz'=>z'.bH=z.bH/\z'.bt=z.bt/\HOk z' (m.client t) (B+1)) (λz'=>z'.H (m.client t)):=by
 have hcm:=k.at hc
 have hol:=k.ol c.m (mQ hcm)
 have hlt:=(lR.1 hc).1
 have ht8:tkB (t:Int)=true:=by
  have:=k.n8
  have:=k.len
  unfold tkB
  rw[od (show (0:Int)<=(t:Int) by omega),od (show (t:Int)<8 by omega)];rfl
 have hm:m.client t={m with L:=(kE (t:Int) m.sq m.L c.m).1,cs:=m.cs.set t (kE (t:Int) m.sq m.L c.m).2.1,sq:=Jb (kE (t:Int) m.sq m.L c.m).2.2.1 m.sq,ev:=m.ev++(kE (t:Int) m.sq m.L c.m).2.2.2}:=by unfold HM.client;rw[hcm]
 have hsq:(Lit.int .u64 m.sq).wf=true:=by
  have:=k.sq
  simp only[Lit.wf,mz,mS]
  exact⟨by show (0:Int)<=_;omega,by show _<=(2^64-1:Int);omega⟩
 have s:=P7 k.lh.ok hB ht8 z.bH z.bt z.vT z.vO z.vE m.sq m.pk m.ev (by have:=k.ev;omega) hsq c hol.1 (mf hol.2.1 hol.1) (by rw[k.lh.hm];exact hmay) (by rw[k.lh.hm];exact hpre)
 rw[k.lh.hm] at s
 have h1:=Og (k:=0) hc
 rw[me] at h1
 have hp:(z.H m).Perm ((HSE z.bH (ptV z.x.bh) z.bt z.vT z.vO z.vE m.sq m.pk::AA z.vE 71 Evt.enc m.ev::(c.H (t:Int)++z.x.H))++(AA z.vT 102 Tk.enc z.tks::Ad z.bt 171 (Sc.kH m.T)::(CLo 0 t z.cc++FLs z.cc.length z.fl))):=by
  exact ((((h1.append_right (FLs z.cc.length z.fl++z.x.H)).cons _).cons _).cons _).cons _ |>.trans (Oh _ _ _ _ (c.H (t:Int)) (CLo 0 t z.cc) (FLs z.cc.length z.fl) z.x.H)
 refine Con.pack _ s hp (λ_ _ _=>trivial) (λr=>{z with vE:=r.1,cc:=z.cc.set t r.2.1,x:=r.2.2}) (λr hr=>⟨rfl,⟨rfl,rfl,k.client hB hev1 hc hpre hr.1 hr.2.1 ⟨hr.2.2.2.1,hr.2.2.2.2⟩⟩,[],?_⟩)
 rw[nS,hm]
 have h2:=dZ (k:=0) r.2.1 hlt
 rw[me] at h2
 have hb:ptV r.2.2.bh=ptV z.x.bh:=by rw[hr.2.2.1]
 have htk:({z with vE:=r.1,cc:=z.cc.set t r.2.1,x:=r.2.2}:HC).tks=z.tks:=by
  unfold HC.tks
  show (z.cc.set t r.2.1).map _++_=_
  rw[jn hc hr.1]
 have hl2:(z.cc.set t r.2.1).length=z.cc.length:=nU ..
 have e:({z with vE:=r.1,cc:=z.cc.set t r.2.1,x:=r.2.2}:HC).H {m with L:=(kE (t:Int) m.sq m.L c.m).1,cs:=m.cs.set t (kE (t:Int) m.sq m.L c.m).2.1,sq:=Jb (kE (t:Int) m.sq m.L c.m).2.2.1 m.sq,ev:=m.ev++(kE (t:Int) m.sq m.L c.m).2.2.2}=HSE z.bH (ptV z.x.bh) z.bt z.vT z.vO r.1 (Jb (kE (t:Int) m.sq m.L c.m).2.2.1 m.sq) m.pk::AA r.1 71 Evt.enc (m.ev++(kE (t:Int) m.sq m.L c.m).2.2.2)::AA z.vT 102 Tk.enc z.tks::Ad z.bt 171 (Sc.kH m.T)::(CLs 0 (z.cc.set t r.2.1)++(FLs z.cc.length z.fl++r.2.2.H)):=by
  show HSE z.bH (ptV r.2.2.bh) z.bt z.vT z.vO r.1 _ _::AA r.1 71 Evt.enc _::AA z.vT 102 Tk.enc ({z with vE:=r.1,cc:=z.cc.set t r.2.1,x:=r.2.2}:HC).tks::_::(CLs 0 (z.cc.set t r.2.1)++(FLs (z.cc.set t r.2.1).length z.fl++r.2.2.H))=_
  rw[hb,htk,hl2]
 rw[e]
 refine List.Perm.trans ?_ (((((h2.append_right (FLs z.cc.length z.fl++r.2.2.H)).cons _).cons _).cons _).cons _)
 exact (Oh _ _ _ _ (r.2.1.H (t:Int)) (CLo 0 t z.cc) (FLs z.cc.length z.fl) r.2.2.H).symm
theorem HOk.mono {z:HC} {m:HM} (k:HOk z m B) (hBC:B<=C) (hC:C<=60000):HOk z m C:=⟨k.lh.mono hBC hC,k.cs,k.nf,k.tn,k.tok.mono (by omega),k.n8,k.ol,mf k.ev hBC,⟨k.sq.1,by have:=k.sq.2;omega⟩,mf k.pk hBC⟩
theorem HOk.pick {z:HC} {m:HM} (k:HOk z m B) (hB:B+2<=60000) (p:Int):HOk z {m with T:=Sc.kD m.T p,pk:=m.pk+1} (B+1) :=
 ⟨k.lh.mono (oS B) (by omega),k.cs,k.nf,by show (Sc.kD m.T p).n=_;rw[Sc.pick_n];exact k.tn,(Sc.pick_ok k.tok p).mono (by omega),k.n8,k.ol,mf k.ev (oS B),⟨k.sq.1,by have h1:=k.sq.2;show m.sq<=((B+1:Nat):Int)+1;omega⟩,Nat.succ_le_succ k.pk⟩
theorem HOk.get {z:HC} {m:HM} (k:HOk z m B) {i:Nat} {cl:Cl} (h:m.cs[i]?=some cl):∃c,z.cc[i]?=some c/\c.m=cl:=by
 rw[<-k.cs,lS] at h
 cases hx:z.cc[i]? with
 |none=>rw[hx] at h;cases h
 |some c=>rw[hx] at h;exact⟨c,rfl,by cases h;rfl⟩
theorem client_T (m:HM) (t:Nat):(m.client t).T=m.T:=by unfold HM.client;split<;>rfl
theorem stepH_eq {m:HM} (hr:Sc.kG m.T≠[]) {cl:Cl} (hcl:m.cs[Sc.whoM m.T p]?=some cl):kF m p=(({m with T:=Sc.kD m.T p,pk:=m.pk+1}:HM).client (Sc.whoM m.T p)).setT (kC (({m with T:=Sc.kD m.T p,pk:=m.pk+1}:HM).client (Sc.whoM m.T p)) (({m with T:=Sc.kD m.T p,pk:=m.pk+1}:HM).client (Sc.whoM m.T p)).T.n (({m with T:=Sc.kD m.T p,pk:=m.pk+1}:HM).client (Sc.whoM m.T p)).T):=by
 unfold kF
 rw[lz hr,client_T]
 show _=HM.setT _ (kC _ (Sc.kD m.T p).n _)
 rw[Sc.pick_n]
theorem It {z:HC} {m:HM} (k:HOk z m B) (hB:B+2<=60000) (hpk:m.pk<20000) (hP:m.Pre) (p:Int) (hQ:DK (kF m p).L):Con prog 13 [ptV z.bH,.int .i64 p] Tr (z.H m) (λy:HC=>(if Sc.kG m.T=[] then .tuple #[.int .i64 0,.bool false] else .tuple #[.int .i64 (Sc.whoM m.T p:Int),.bool true])) (λy=>y.bH=z.bH/\HOk y (kF m p) (B+2)) (λy=>y.H (kF m p)):=by
 intro w hE hH
 have htl:=k.tlen
 have h8:m.T.n<=8:=by rw[k.tn];exact k.n8
 refine Ey func13 I hH (Cs I (Las I (Ak I (Af (Cs I (Mv 2 I (Lfa Cn I Z3 I (Lo G3 0 I (Lq I (Qg I) (Nk (Sf 15 I (by omega) (Aa I (Ae (Kt (Cs I (Mv 2 I (Lfa Cn I Z97 I (Lo G97 0 I (Lm I (D3 (l_e I (Bf (Sc.pick_spec k.tok (by have:=k.lh.ok.b9;omega) z.bt p) I I I call38 I Tt (λ_ _=>Lm I (Mv 3 I (Ak I (Af (Cs I (Mv 2 I (Nk (Pm [1,1,1] I (Pre.caseB 26 I (λhr=>?_) (λhr=>?_))))))))))))))))))))))))))))))))
 .try simp only[nr,Bool.not_eq_false',mS,m5,ne_eq,Decidable.not_not] at hr
  have hst:kF m p=m:=by unfold kF;rw[lu (by simpa using hr)]
  have hpk:Sc.kD m.T p=m.T:=by unfold Sc.kD;rw[lu (by simpa using hr)]
  exact Ah I (Cs I (Las I (Ak I (Ag (Ac (Bg (rs:=[.tmp 4,.tmp 5]) I I (λ_ h=>⟨z,by rw[lu (by simpa using hr)],⟨rfl,by rw[hst];exact k.mono (by omega) hB⟩,by rw[hst];rw[hpk] at h;exact h⟩)))))))
 .try simp only[nr,Bool.not_eq_false',mS,m5,ne_eq,Decidable.not_not] at hr
  have hr2:Sc.kG m.T≠[]:=by simpa using hr
  obtain⟨cl,hcl,hpre,hmay⟩:=hP (Sc.whoM m.T p) (Sc.who_mem p hr2)
  have km:=k.pick hB p
  obtain⟨c,hc,hcm⟩:=k.get hcl
  subst hcm
  have ha:z.tks[Sc.whoM m.T p]?=some (Tk.c c.b):=by unfold HC.tks;rw[lq (by simpa using (lR.1 hc).1),lS,hc];rfl
  have hal:=(lR.1 ha).1
  refine Aa I (Ae (Kt (Cs I (Mv 2 I (Lfa Cn I Z3 I (Lo G3 0 I (Lq I (Qi I) (Lc I (Lfa Cn I Z3 I (l_e I (AG I I Z3 I I I (ng I) (Ce [ptV z.x.bh,ptV z.bt,z.vT,z.vO,z.vE,.int .u64 m.sq,.int .i64 ((m.pk+1:Nat):Int)] I (Ns (Cs I (Mv 2 I (Lfa Cn I Z98 I (Lo G98 0 I (Lm I (Lq I (Ar (Sc.whoM m.T p) I U98 Hv I (Hrd 2 I) I I) (Lq I (AI (Sc.whoM m.T p) 0 I JM I I (Hrd 2 I) ha I) (Nk ?_)))))))))))))))))))))
  refine Aj (Cs I (Lq rfl (Cz rfl IP (λ_ h=>by cases h) rfl) (Mv 2 I (Nk (Ah I (Cs I (Ak I (Cr I (Mv 3 I (Pw (St _ _ (HC.H z ({m with T:=Sc.kD m.T p,pk:=m.pk+1}:HM))) ?_))))))))))
  refine l_e I (Ee [] (P9 (m:=({m with T:=Sc.kD m.T p,pk:=m.pk+1}:HM)) km (by omega) (by have:=k.ev;show m.ev.length+1<=B+1;omega) hc hmay hpre) I call39 Tt ?_)
  rintro y ⟨hy1,hy2,hy3⟩
  refine Pw (St _ _ (HC.H y (({m with T:=Sc.kD m.T p,pk:=m.pk+1}:HM).client (Sc.whoM m.T p)))) ?_
  refine AB (Aw (Kt (Cs I (Lm I ?_))))
  have hst:kF m p=(({m with T:=Sc.kD m.T p,pk:=m.pk+1}:HM).client (Sc.whoM m.T p)).setT (kC (({m with T:=Sc.kD m.T p,pk:=m.pk+1}:HM).client (Sc.whoM m.T p)) (({m with T:=Sc.kD m.T p,pk:=m.pk+1}:HM).client (Sc.whoM m.T p)).T.n (({m with T:=Sc.kD m.T p,pk:=m.pk+1}:HM).client (Sc.whoM m.T p)).T):=stepH_eq hr2 hcl
  refine Sv' 66 (ptV y.bH) I (by rw[hy1]) (l_e I (Ee [] (ec hy3 (by rw[hst] at hQ;exact hQ)) I call42 Tt (λ_ _=>Pw (St _ _ (HC.H y ((({m with T:=Sc.kD m.T p,pk:=m.pk+1}:HM).client (Sc.whoM m.T p)).setT (kC (({m with T:=Sc.kD m.T p,pk:=m.pk+1}:HM).client (Sc.whoM m.T p)) (({m with T:=Sc.kD m.T p,pk:=m.pk+1}:HM).client (Sc.whoM m.T p)).T.n (({m with T:=Sc.kD m.T p,pk:=m.pk+1}:HM).client (Sc.whoM m.T p)).T)))) ?_)))
  exact Nk (Cs I (Mv 2 I (Ak I (Ag (Bg (rs:=[.tmp 4,.tmp 5]) I I (λ_ h=>⟨y,by rw[lz hr2],⟨hy1,by rw[hst];exact hy3.kC _⟩,by rw[hst];exact h⟩))))))
theorem jY {z:HC} {m:HM} (k:HOk z m B):Con prog 47 [ptV z.bH] Tr (z.H m) (λ_:Unit=>.int .u64 m.sq) Tr (λ_=>z.H m):=by
 intro w hE hH
 refine Ey func47 I hH ?_
 exact Cs I (Ak I (Cs I (Mv 2 I (Lfa Cn I Z41 I (Lo G41 0 I (Ak I (Ag (Ao I I (λ_ h=>⟨(),rfl,T0,h⟩)))))))))
theorem MX {z:HC} {m:HM} (k:HOk z m B):Con prog 19 [ptV z.bH] Tr (z.H m) (λ_:Unit=>ptV z.x.bh) Tr (λ_=>z.H m):=by
 intro w hE hH
 refine Ey func19 I hH ?_
 exact Cs I (Ak I (Cs I (Mv 2 I (Lfa Cn I Z47 I (Lo G47 0 I (Ak I (Ag (Ao I I (λ_ h=>⟨(),rfl,T0,h⟩)))))))))
theorem TD {z:HC} {m:HM} (k:HOk z m B) (t:Int):Con prog 44 [ptV z.bH,.int .i64 t] Tr (z.H m) (λn:Int=>.int .i64 n) Tr (λ_=>z.H m):=by
 intro w hE hH
 refine Ey func44 I hH ?_
 exact Cs I (Ak I (Cs I (Mv 2 I (Lfa Cn I Z97 I (Lo G97 0 I (Lm I (D3 (l_e I (Bf (Sc.wait_spec k.tok z.bt t) I I I call95 I Tt (λ_ _=>Ak I (Ag (Pm [1,1,1] I (Ao I I (λ_ h=>⟨_,rfl,T0,h⟩))))))))))))))
theorem jo {z:HC} {m:HM} (k:HOk z m B):Con prog 43 [ptV z.bH] Tr (z.H m) (λv:Value=>v) Tr (λv=>AA v 3 (AH .i64) (Sc.nints (Sc.kG m.T))::z.H m):=by
 intro w hE hH
 refine Ey func43 I hH ?_
 exact Cs I (Ak I (Cs I (Mv 2 I (Lfa Cn I Z97 I (Lo G97 0 I (D3 (l_e I (IL (Sc.runnable_spec k.tok z.bt) I I I call76 I Tt (λv _=>Ak I (Ag (Pm [0,1,1,1] I (Ao I I (λ_ h=>⟨v,rfl,T0,h⟩)))))))))))))
theorem Qa (l:List Evt) (hn:l.length<=65536):Con prog 45 [va] (λw=>RdV w va Evt.enc l) [] (λv:Value=>v) Tr (λv=>[AA v 71 Evt.enc l]):=by
 intro w hl hH
 obtain⟨a,c,rfl⟩:=FI hl
 refine E0 func45 I hH (Cs I (Ak I (Af (Cs I (Lm I (Lq I (FZ I U34 I I) (Nk (Pre.caseB 4 I (λhn=>?_) (λhn=>?_)))))))))
 .rw[oI] at hn
  subst hn
  have hl0:=EP hl
  subst hl0
  exact Ah I (Cs I (Ak I (Ag (Ac (row0 71 Evt.enc none (Ao I I (λ_ h=>⟨_,rfl,T0,h⟩)))))))
 .refine Aa I (Ae (Kt (Cs I (l_e I (Ax (sz:=22) [] I I I I I U34 Z71 I zeroValue71 I (λb=>rowLit Evt.enc [] I I (Lm I (l_e I (Ap U34 U34 Re I hl.kp (by simp only[lp,kQ,ob];omega) (λv=>Ak I (Ag ?_)))))))))))
  rw[mw]
  exact Ao I I (λ_ h=>⟨v,rfl,T0,h⟩)
theorem TE {z:HC} {m:HM} (k:HOk z m B):Con prog 15 [ptV z.bH] Tr (z.H m) (λv:Value=>v) Tr (λv=>AA v 71 Evt.enc m.ev::z.H m):=by
 intro w hE hH
 refine Ey func15 I hH ?_
 exact Cs I (Ak I (Cs I (Mv 2 I (Lfa Cn I Z34 I (Lo isAgg34 0 I (l_e I (AZ (Qa m.ev (by have:=k.ev;have:=k.lh.ok.b9;omega)) I I I call45 I (Hrd 1 I) (λv _=>Ak I (Ag (Ao I I (λ_ h=>⟨v,rfl,T0,h⟩)))))))))))
theorem RZ {z:HC} {m:HM} (k:HOk z m B):Con prog 12 [ptV z.bH] Tr (z.H m) (λ_:Unit=>.bool (m.cs.all Cl.ended)) Tr (λ_=>z.H m):=by
 intro w hE hH
 have htl:=k.tlen
 have h8:m.T.n<=8:=by rw[k.tn];exact k.n8
 have htn:=k.tn
 refine Ey func12 I hH (Cs I (Ak I (Af (Cs I (Mv 2 I (Lfa Cn I Z98 I (Lo G98 0 I (Lq I (AJ I U98 I (Hrd 2 I)) (Lm I (Nk (Aj ?_)))))))))))
 refine A0 (λ(i:Nat)=>[(0,ptV z.bH),(10,z.vT),(11,.int .i64 (z.tks.length:Int)),(12,.int .i64 (i:Int))]) (λ(i:Nat)=>St w (dom (z.H m)) (z.H m)) (λ(i:Nat)=>i<=z.tks.length/\∀c∈m.cs.take i,c.ended=true) (λ(i:Nat)=>z.tks.length-i) (0) ⟨lK _,by simp⟩ (Si I) Ih (λi hp=>Af ?_)
 obtain⟨hi,hen⟩:=hp
 refine Cr I (Lq I (Ql I) (Ns (CB 13 I (λhlt=>?_) (λhlt=>?_))))
 .obtain⟨a,ha⟩:=gE z.tks i
  rcases k.tk ha with⟨c,hc,rfl⟩|⟨b,hb,hfb,rfl⟩|⟨he,rfl⟩
  .have hcm:=k.at hc
   refine Ah I (Ae (Ks (Aj (Cs I (Lq I (Ar i I U98 Hv I (Hrd 2 I) I I) (Lq I (AI i 0 I JM I I (Hrd 2 I) ha I) (Ak I (Cs I (Lm I (Lq rfl (Cz rfl IP (λ_ h=>by cases h) rfl) (Mv 4 I (Ak I (Cs I (Mv 3 I (l_e I (Ee [] (Lb k hc) I call37 Tt (λ_ _=>Pw (St _ _ (HC.H z m)) (Mv 2 I (Nk (CB 26 I (λhce=>?_) (λhce=>?_)))))))))))))))))))))
   .exact Ah I (Cs I (Ak I (Ag (As (Ac (Ac (As (Ac (Ao I I (λ_ h=>⟨(),congrArg Eb (by symm;rw[o7];exact⟨c.m,mQ hcm,by rw[hce];decide⟩),T0,h⟩))))))))))
   .refine Aa I (Ae (Aw (Kt (Cr I (Lq I (Qi I) (Lm I (AB ?_)))))))
    exact AE (i+1) (by omega) ⟨by omega,λd hd=>by
     rw[nT,hcm] at hd
     rcases mT.1 hd with e|e
     .exact hen d e
     .simp at e;rw[e];exact hce⟩ (Si I) (λ_ h=>h)
  .have hno:m.cs[i]?=none:=k8 (by omega)
   refine Ah I (Ae (Ks (Aj (Cs I (Lq I (Ar i I U98 Hv I (Hrd 2 I) I I) (Lq I (AI i 0 I JM I I (Hrd 2 I) ha I) (Ak I (Cs I (Lm I (Lq rfl (CN rfl IP (λ_ h=>by cases h) rfl (by decide) zeroValue103) (Mv 4 I (Ak I (Cs I (Mv 6 I (Nk (Aa I (Ae (Aw (Kt (Cr I (Lq I (Qi I) (Lm I (AB ?_)))))))))))))))))))))))
   exact AE (i+1) (by omega) ⟨by omega,λd hd=>hen d (by rw[nT,hno] at hd;simpa using hd)⟩ (Si I) (λ_ h=>h)
  .have hno:m.cs[i]?=none:=k8 (by omega)
   refine Ah I (Ae (Ks (Aj (Cs I (Lq I (Ar i I U98 Hv I (Hrd 2 I) I I) (Lq I (AI i 0 I JM I I (Hrd 2 I) ha I) (Ak I (Cs I (Lm I (Lq rfl (CN rfl IP (λ_ h=>by cases h) rfl (by decide) zeroValue103) (Mv 4 I (Ak I (Cs I (Mv 6 I (Nk (Aa I (Ae (Aw (Kt (Cr I (Lq I (Qi I) (Lm I (AB ?_)))))))))))))))))))))))
   exact AE (i+1) (by omega) ⟨by omega,λd hd=>hen d (by rw[nT,hno] at hd;simpa using hd)⟩ (Si I) (λ_ h=>h)
 .exact Aa I (AO (Ab (Ab (Am (Kt (Cs I (Ak I (Ag (Ao I I (λ_ h=>⟨(),congrArg Eb (by symm;rw[np];intro c hc;exact hen c (by rw[lI (by omega)];exact hc)),T0,h⟩))))))))))
theorem jq {z:HC} {m:HM} (k:HOk z m B) {vp:Value} (picks:List Int) (hpl:picks.length<=9223372036854775807) (i:Nat) (hi:i<=1000000):Con prog 14 [ptV z.bH,vp,.int .i64 (i:Int)] (λw=>RdV w vp (AH .u8) picks) (z.H m) (λn:Int=>.int .i64 n) Tr (λ_=>z.H m):=by
 intro w hE hH
 have htn:m.T.n<=8:=by rw[k.tn];exact k.n8
 have hrl:(Sc.nints (Sc.kG m.T)).length<=8:=by
  have h1:(Sc.nints (Sc.kG m.T)).length<=m.T.n:=by
   unfold Sc.nints Sc.kG
   rw[mB]
   exact mf (oK _ _) (by rw[oN];exact lJ _)
  omega
 refine enter (n:=50) (vs:=[ptV z.bH,vp,.int .i64 (i:Int)]) (λw2=>St w (dom (z.H m)) (z.H m) w2/\RdV w2 vp (AH .u8) picks) func14 I I I ⟨St.init hH,hE⟩ ?_
 refine Cs I (Ak I (Af (Cs I (Lm I (Lq I (Bm I I I) (Mv 2 I (CB 13 I (λh1=>?_) (λh1=>?_))))))))
 .refine Lm I (Lq I (AJ I U23 I (λ_ h=>h.2)) (Lq I (BQ I I I) (Lq I (Qy I) (Nk (CB 17 I (λh2=>?_) (λh2=>?_))))))
  .have hj:i/2%picks.length<picks.length:=lM _ (by omega)
   refine Ah I (Cs I (Mv 2 I (Lq I (By I I I) (Lm I (Lq I (AJ I U23 I (λ_ h=>h.2)) (Lq I (Bm I I I) (Lq I (Ar (i/2%picks.length) I U23 Z5 I (λ_ h=>h.2) I (by simp) hj) (l_q I (AI (i/2%picks.length) 0 I G5 I I (λ_ h=>h.2) (kY hj) I) I I ?_))))))))
   exact Lq I (Hp I U5 U3 I) (Ak I (Ag (Ac (Ao I I (λ_ h=>⟨_,rfl,T0,h.1⟩)))))
  .refine Aa I (Ae (Ks (Pre.world (St w (dom (z.H m)) (z.H m)) (λ_ h=>h.1) ?_)))
   refine Cr I (Lm I (l_e I (Ee [] (jo k) I call43 Tt (λv _=>Pw (St _ _ (_::HC.H z m)) (Ak I (Cs I (Ak I (Af (Cs I (Ak I (Aj ?_)))))))))))
   refine Cy (λ(j:Nat) (a:Nat)=>[(0,ptV z.bH),(7,v),(8,.int .i64 (a:Int)),(9,.int .i64 (j:Int))]) (λ(j:Nat) (a:Nat)=>St w (dom (z.H m)) (AA v 3 (AH .i64) (Sc.nints (Sc.kG m.T))::z.H m)) (λ(j:Nat) (a:Nat)=>a<=j) (λ(j:Nat) (a:Nat)=>(Sc.nints (Sc.kG m.T)).length-j) (0) (0) (lJ _) (Si I) Ih (λj a haj=>Af (Cs I (Mv 2 I (Lq I (AJ I U22 I (Hrd 0 I)) (Lq I (Ql I) (Nk ?_))))))
   refine CB 32 I (λhlt=>?_) (λhlt=>?_)
   .have hjl:j<(Sc.nints (Sc.kG m.T)).length:=by omega
    have hal:a<(Sc.nints (Sc.kG m.T)).length:=by omega
    refine Ah I (Ae (Ks (Aj (Af (Do8 [0,1,2,3,4,6,7,8,9,10,5,11,12] 1476225 (λw2=>RdV w2 v (AH .i64) (Sc.nints (Sc.kG m.T))) I St.drawn (Hrd 0 I) (Md 3 I (Dq I (Ar j I U22 Z3 I Ih I I) (d_q I (AI j 0 I G3 I I (λ_ h=>h) (kY hjl) I) I I ?_))))))))
    refine Md 3 I (Dq I (Ar a I U22 Z3 I Ih I I) (d_q I (AI a 0 I G3 I I (λ_ h=>h) (kY hal) I) I I ?_))
    refine d_e I (Ee [_] (TD k _) I call44 Tt (λn0 _=>Pw (St _ _ (_::HC.H z m)) (Ai (Hrd 0 I) (d_t I (Ee [_] (TD k _) I call44 Tt (λn1 _=>Pw (St _ _ (_::HC.H z m)) (d_t I (e_q I I (BQ I I I) (AL (Kt (CB 47 I (λhg=>?_) (λhg=>?_))))))))))))
    .refine Ah I (Cr I (Mv 2 I (AB (Aw (Kt (Cr I (Lm I (Lq I (Qi I) (Las I (AB ?_))))))))))
     exact AE ((j+1,j)) (by dsimp only;omega) (by dsimp only;omega) (Si I) (λ_ h=>h)
    .refine Aa I (Ae (Aw (Kt (Cr I (Lm I (Lq I (Qi I) (Las I (AB ?_))))))))
     exact AE ((j+1,a)) (by dsimp only;omega) (by dsimp only;omega) (Si I) (λ_ h=>h)
   .exact Aa I (AO (Ab (Ab (Am (Kt (Cs I (Lm I (Ak I (Ag (Av (Ao I I (λ_ h=>⟨_,rfl,T0,h⟩))))))))))))
 .refine Pre.world (St w (dom (z.H m)) (z.H m)) (λ_ h=>h.1) ?_
  refine Mv 4 I (Nk (Aa I (Ae (Kt (Cs I (Lm I (l_e I (Ee [] (jo k) I call43 Tt (λv _=>Pw (St _ _ (_::HC.H z m)) (Ak I (Cs I (Ak I (Af (Cs I (Ak I (Aj ?_))))))))))))))))
  refine Cy (λ(j:Nat) (a:Nat)=>[(0,ptV z.bH),(7,v),(8,.int .i64 (a:Int)),(9,.int .i64 (j:Int))]) (λ(j:Nat) (a:Nat)=>St w (dom (z.H m)) (AA v 3 (AH .i64) (Sc.nints (Sc.kG m.T))::z.H m)) (λ(j:Nat) (a:Nat)=>a<=j) (λ(j:Nat) (a:Nat)=>(Sc.nints (Sc.kG m.T)).length-j) (0) (0) (lJ _) (Si I) Ih (λj a haj=>Af (Cs I (Mv 2 I (Lq I (AJ I U22 I (Hrd 0 I)) (Lq I (Ql I) (Nk ?_))))))
  refine CB 32 I (λhlt=>?_) (λhlt=>?_)
  .have hjl:j<(Sc.nints (Sc.kG m.T)).length:=by omega
   have hal:a<(Sc.nints (Sc.kG m.T)).length:=by omega
   refine Ah I (Ae (Ks (Aj (Af (Do8 [0,1,2,3,4,6,7,8,9,10,5,11,12] 1476225 (λw2=>RdV w2 v (AH .i64) (Sc.nints (Sc.kG m.T))) I St.drawn (Hrd 0 I) (Md 3 I (Dq I (Ar j I U22 Z3 I Ih I I) (d_q I (AI j 0 I G3 I I (λ_ h=>h) (kY hjl) I) I I ?_))))))))
   refine Md 3 I (Dq I (Ar a I U22 Z3 I Ih I I) (d_q I (AI a 0 I G3 I I (λ_ h=>h) (kY hal) I) I I ?_))
   refine d_e I (Ee [_] (TD k _) I call44 Tt (λn0 _=>Pw (St _ _ (_::HC.H z m)) (Ai (Hrd 0 I) (d_t I (Ee [_] (TD k _) I call44 Tt (λn1 _=>Pw (St _ _ (_::HC.H z m)) (d_t I (e_q I I (BQ I I I) (AL (Kt (CB 47 I (λhg=>?_) (λhg=>?_))))))))))))
   .refine Ah I (Cr I (Mv 2 I (AB (Aw (Kt (Cr I (Lm I (Lq I (Qi I) (Las I (AB ?_))))))))))
    exact AE ((j+1,j)) (by dsimp only;omega) (by dsimp only;omega) (Si I) (λ_ h=>h)
   .refine Aa I (Ae (Aw (Kt (Cr I (Lm I (Lq I (Qi I) (Las I (AB ?_))))))))
    exact AE ((j+1,a)) (by dsimp only;omega) (by dsimp only;omega) (Si I) (λ_ h=>h)
  .exact Aa I (AO (Ab (Ab (Am (Kt (Cs I (Lm I (Ak I (Ag (Av (Ao I I (λ_ h=>⟨_,rfl,T0,h⟩))))))))))))
def C6:Enc Sv:=⟨1,λs=>[s.v],λ_=>rfl,λa u h=>by simp at h;subst h;rfl,by decide⟩
structure RRo (w:World) (v:Value) (vs:List Sv) (ls:List (List Opn)):Prop where
 o:RdV w v C6 vs
 len:vs.length=ls.length
 i:∀(i:Nat) (s:Sv) (l:List Opn),vs[i]?=some s->ls[i]?=some l->RdV w s.v Opn.enc l
theorem RRo.keep {w0 w:World} {v:Value} {H:List Ent} (h:RRo w0 v vs ls) (s:St w0 [] H w):RRo w v vs ls:=⟨h.o.keep s (by simp),h.len,λi a l h1 h2=>(h.i i a l h1 h2).keep s (by simp)⟩
def RWs:List Sv->List (List Opn)->List Ent
 |s::vs,l::ls=>AA s.v 43 Opn.enc l::RWs vs ls
 |_,_=>[]
theorem Qb:∀(vs:List Sv) (ls:List (List Opn)) (s:Sv) (l:List Opn),vs.length=ls.length->RWs (vs++[s]) (ls++[l])=RWs vs ls++[AA s.v 43 Opn.enc l]
 |[],[],_,_,_=>rfl
 |[],_::_,_,_,h=>by simp at h
 |_::_,[],_,_,h=>by simp at h
 |a::vs,b::ls,s,l,h=>by
  show AA a.v 43 Opn.enc b::RWs (vs++[s]) (ls++[l])=_
  rw[Qb vs ls s l (by simpa using h)];rfl
theorem Yc:∀(vs:List Sv) (ls:List (List Opn)) (i:Nat) (s:Sv) (l:List Opn),vs[i]?=some s->ls[i]?=some l->RWs (vs.drop i) (ls.drop i)=AA s.v 43 Opn.enc l::RWs (vs.drop (i+1)) (ls.drop (i+1)):=λvs ls i s l h1 h2=>by
 obtain⟨a,rfl⟩:=lR.1 h1
 obtain⟨b,rfl⟩:=lR.1 h2
 rw[kV a,kV b];rfl
theorem Qc:∀(k:Nat) (cc:List CC) (c:CC),CLs k (cc++[c])=CLs k cc++c.H ((k+cc.length:Nat):Int)
 |k,[],c=>by show c.H _++[]=_;rw[nS];rfl
 |k,a::cc,c=>by
  show a.H _++CLs (k+1) (cc++[c])=_
  rw[Qc (k+1) cc c,kQ,show k+1+cc.length=k+(cc.length+1) by omega,<-mj];rfl
theorem Qd:∀(k:Nat) (fl:List Nat) (b:Nat),FLs k (fl++[b])=FLs k fl++[FLE b ((k+fl.length:Nat):Int)]
 |k,[],b=>rfl
 |k,a::fl,b=>by
  show FLE a _::FLs (k+1) (fl++[b])=_
  rw[Qd (k+1) fl b,kQ,show k+1+fl.length=k+(fl.length+1) by omega];rfl
def cc0 (b:Nat) (s:Sv) (l:List Opn):CC:=⟨b,s.v,0,0,⟨l,0,.idle⟩⟩
theorem Vq (p:List Ent) (cc:List CC) (b:Nat) (s:Sv) (l:List Opn) (R:List Ent):(p++(CLE b s.v 0 [.pointer none,.pointer none]::(CLs 0 cc++(AA s.v 43 Opn.enc l::R)))).Perm (p++(CLs 0 (cc++[cc0 b s l])++R)):=by
 rw[Qc]
 refine List.Perm.append_left p ?_
 rw[mj]
 exact (pe [CLE b s.v 0 [.pointer none,.pointer none]] (CLs 0 cc) (AA s.v 43 Opn.enc l::R))
theorem Vr (p:List Ent) (C:List Ent) (k:Nat) (fl:List Nat) (b:Nat) (R:List Ent):(p++(FLE b ((k+fl.length:Nat):Int)::(C++(FLs k fl++R)))).Perm (p++(C++(FLs k (fl++[b])++R))):=by
 rw[Qd]
 refine List.Perm.append_left p ((pe [FLE b ((k+fl.length:Nat):Int)] C (FLs k fl++R)).trans (List.Perm.append_left C ?_))
 rw[mj]
 exact pe [_] (FLs k fl) R
theorem MY {l:List α} {a:α} (h:l[i]?=some a):l.take (i+1)=l.take i++[a]:=by rw[nT,h];rfl
theorem Qf (l:List Opn) (hn:l.length<=65536):Con prog 104 [va] (λw=>RdV w va Opn.enc l) [] (λv:Value=>v) Tr (λv=>[AA v 43 Opn.enc l]):=by
 intro w hl hH
 obtain⟨a,c,rfl⟩:=FI hl
 refine E0 func104 I hH (Cs I (Ak I (Af (Cs I (Lm I (Lq I (FZ I U40 I I) (Nk (Pre.caseB 4 I (λhn=>?_) (λhn=>?_)))))))))
 .rw[oI] at hn
  subst hn
  have hl0:=EP hl
  subst hl0
  exact Ah I (Cs I (Ak I (Ag (Ac (row0 43 Opn.enc none (Ao I I (λ_ h=>⟨_,rfl,T0,h⟩)))))))
 .refine Aa I (Ae (Kt (Cs I (l_e I (Ax (sz:=4) [] I I I I I U40 Z43 I zeroValue43 I (λb=>rowLit Opn.enc [] I I (Lm I (l_e I (Ap U40 U40 Ki I hl.kp (by simp only[lp,kQ,ob];omega) (λv=>Ak I (Ag ?_)))))))))))
  rw[mw]
  exact Ao I I (λ_ h=>⟨v,rfl,T0,h⟩)
theorem bY (hn:vs.length<=8) (hol:∀l∈ls,l.length<=1000):Con prog 51 [vo] (λw=>RRo w vo vs ls) [] (λr:Value×List Sv=>r.1) (λr=>r.2.length=ls.length) (λr=>AA r.1 40 C6 r.2::RWs r.2 ls):=by
 intro w hE hH
 have hlen:=hE.len
 refine E0 func51 I hH (Cs I (Ak I (Cs I (Ak I (Af (Cs I (Lm I (Lq I (AJ I U25 I hE.o.kp) (Lm I (Nk (Aj (row0 40 C6 none ?_))))))))))))
 refine Fp (λ(i:Nat) (vr:Value) (us:List Sv)=>[(0,vo),(3,vr),(6,vo),(7,.int .i64 (vs.length:Int)),(8,.int .i64 (i:Int))]) (λ(i:Nat) (vr:Value) (us:List Sv)=>St w [] (AA vr 40 C6 us::RWs us (ls.take i))) (λ(i:Nat) (vr:Value) (us:List Sv)=>i<=vs.length/\us.length=i) (λ(i:Nat) (vr:Value) (us:List Sv)=>vs.length-i) (0) (Cb) ([]) ⟨lK _,rfl⟩ (Si I) Ih (λi vr us hp=>Af ?_)
 obtain⟨hi,hul⟩:=hp
 refine Cr I (Lq I (Ql I) (Ns (CB 9 I (λhlt=>?_) (λhlt=>?_))))
 .obtain⟨s,hs⟩:=gE vs i
  obtain⟨l,hl⟩:=gE ls i
  have hll:=hol l (mQ hl)
  have hts:=MY hl
  refine Ah I (Ae (Ks (Aj (Cs I (Lq I (Ar i I U25 Z40 I hE.o.kp I I) (Lq I (AI i 0 I G40 I I hE.o.kp hs I) (Ak I (Cr I (Mv 2 I (l_e I (AZ (Qf l (by omega)) I I I call104 I (λ_ h=>(hE.i i s l hs hl).keep h (by simp)) (λv2 _=>Pre.fact (λ_ h=>Gf (h.rd 0 I)) ?_))))))))))))
  rintro⟨s2,rfl⟩
  refine l_e I (Ax (sz:=1) [.tmp 14] I I I I I U25 Z40 I zeroValue40 I (λb1=>AX (l_e I (Ap U25 U25 Wi I (λ_ h=>AY (h.at 1 I) C6 [s2] I I) (by simp only[lp,kQ,ob];omega) (λv3=>AM (Av (Las I (AB (Aw (Kt (Cr I (Lq I (Qi I) (Lm I (AB ?_))))))))))))))
  exact AE ((i+1,v3,us++[s2])) (by dsimp only;omega) ⟨by dsimp only;omega,by simp[hul]⟩ (Si I) (λ_ h=>by
   dsimp only
   rw[hts,Qb us (ls.take i) s2 l (by rw[k9];omega)]
   exact h.perm (List.Perm.cons _ (og (l₁:=[_]))))
 .exact Aa I (AO (Ab (Ab (Am (Kt (Cs I (Lm I (Ak I (Ag (Ao I I (λ_ h=>⟨(vr,us),rfl,by dsimp only;omega,by rw[lI (by omega)] at h;exact h⟩)))))))))))
theorem gl {nb nf fl:Nat} (hb1:1<=nb) (hb2:nb<=256) (hf3:fl<=3) (hn1:1<=ls.length) (hn4:ls.length<=4) (hfr:4*(ls.length+fl)<nf) (hf64:nf<=64) (hol:∀l∈ls,l.length<=24) (hkd:∀l∈ls,∀o∈l,1<=o.kind/\o.kind<=4):Con prog 49 [.agg #[.int .i64 (nb:Int),.int .i64 (nf:Int),.int .i64 (fl:Int),vo]] (λw=>RRo w vo vs ls) [] (λ_:Unit=>.int .i64 0) Tr (λ_=>[]):=by
 intro w hE hH
 have hlen:=hE.len
 refine E0 func49 I hH (Cs I (l_e I (AT I I I I (λbc=>Ce [.int .i64 (nb:Int),.int .i64 (nf:Int),.int .i64 (fl:Int),vo] I (Ak I (Cs I (Lfa U27 I Z25 I (Lo G25 0 I (Lq I (AJ I U25 I hE.o.kp) (Ak I (Cs I (Lfa U27 I Z3 I (Lo G3 0 I (Mv 2 I (Sb 15 true I (by first|rfl|(simp only[mS,m5];omega)|(simp;omega)) (Lfa U27 I Z3 I (Lo G3 0 I (Lq I (H4 I I I) (Mv 2 I (Sb 20 true I (by first|rfl|(simp only[mS,m5];omega)|(simp;omega)) (Lfa U27 I Z3 I (Lo G3 0 I (Mv 3 I ?_)))))))))))))))))))))))
 refine Sb 25 true I (by first|rfl|(simp only[mS,m5];omega)|(simp;omega)) (Lfa U27 I Z3 I (Lo G3 0 I (Lq I (H4 I I I) (Mv 2 I (Sb 30 true I (by first|rfl|(simp only[mS,m5];omega)|(simp;omega)) (Mv 4 I (Sb 34 true I (by first|rfl|(simp only[mS,m5];omega)|(simp;omega)) (Lm I (Lq I (H4 I I I) (Lq I (Qy I) (Ak I (Af (Cs I (Mv 3 I (Sb 40 false I (by first|rfl|(simp only[mS,m5];omega)|(simp;omega)) (Lfa U27 I Z3 I (Lo G3 0 I ?_)))))))))))))))))
 refine Lm I (Lfa U27 I Z3 I (Lo G3 0 I (Lq I (Bh I I I) (Lq I (GN I I I) (Lq I (H4 I I I) (Mv 2 I (Sb 50 false I (by first|rfl|(simp only[mS,m5];omega)|(simp;omega)) (Lfa U27 I Z3 I (Lo G3 0 I (Lq I (BQ I I I) (Lq I (Qz I) (Nk (Sb 54 false I (by first|rfl|(simp only[mS,m5];omega)|(simp;omega)) (Aa I (Ae (Ks (Cs I (Lfa U27 I Z25 I (Lo G25 0 I (Lq I (AJ I U25 I hE.o.kp) (Lm I (Nk (Aj (Sv' 4 (.bool true) I (congrArg Value.bool Dt) ?_))))))))))))))))))))))))
 refine A0 (λ(i:Nat)=>[(4,.bool true),(56,vo),(57,.int .i64 (vs.length:Int)),(58,.int .i64 (i:Int))]) (λ(i:Nat)=>St w [] []) (λ(i:Nat)=>i<=vs.length) (λ(i:Nat)=>vs.length-i) (0) (lK _) (Si I) (λ_ h=>h.kv) (λi hi=>Cs I (Lq I (Ql I) (Ns ?_)))
 refine CB 59 I (λhlt=>?_) (λhlt=>?_)
 .obtain⟨s,hs⟩:=gE vs i
  obtain⟨l,hl⟩:=gE ls i
  have hll:=hol l (mQ hl)
  have hlk:=hkd l (mQ hl)
  have hrl:=hE.i i s l hs hl
  refine Ah I (Ae (Ks (Aj (Cs I (Lq I (Ar i I U25 Z40 I hE.o.kp I I) (Lq I (AI i 0 I G40 I I hE.o.kp hs I) (Ak I (Af (Cs I (Lm I (Lq I (AJ I U40 I hrl.kp) (Lm I (Nk (Aj ?_))))))))))))))
  refine A0 (λ(j:Nat)=>[(4,.bool true),(6,s.v),(56,vo),(57,.int .i64 (vs.length:Int)),(58,.int .i64 (i:Int)),(62,s.v),(63,.int .i64 (l.length:Int)),(64,.int .i64 (j:Int))]) (λ(j:Nat)=>St w [] []) (λ(j:Nat)=>j<=l.length) (λ(j:Nat)=>l.length-j) (0) (lK _) (Si I) Ih (λj hj=>Cs I (Lq I (Ql I) (Ns ?_)))
  refine CB 65 I (λhjl=>?_) (λhjl=>?_)
  .obtain⟨o,ho⟩:=gE l j
   have hok:=hlk o (mQ ho)
   refine Ah I (Ae (Ks (Aj (Cs I (Lq I (Ar j I U40 Z43 I hrl.kp I I) (Lq I (AV j I G43 Z43 I I hrl.kp ho) (l_e I (Au I I I zeroValue43 (λbo=>Ce [.int .i64 0,.string ⟨#[]⟩,.string ⟨#[]⟩,.int .u64 0] I (l_e I (Az I I Z43 I I I (Opn.one o) (by show 0+4<=4;decide) (Ce (Opn.c o) (Sep.ku I) (Nk (Cr I (Mv 2 I (Lfa U43 I Z3 I (Lo G3 0 I (Mv 3 I (Sb 74 true I (by first|rfl|(simp only[mS];omega)|exact od (by omega)) (Lfa U43 I Z3 I (Lo G3 0 I (Lq I (H4 I I I) (Mv 2 I (AB (Aw (Kt (Cr I (Lq I (Qi I) ?_))))))))))))))))))))))))))))
   refine Lm I (AB (Sv' 4 (.bool true) I (congrArg Value.bool Dt) ?_))
   exact AE (j+1) (by omega) (by omega) (Si I) (λ_ h=>h.kv)
  .refine Aa I (AO (Ab (Ab (Am (Kt (Cs I (Mv 4 I (Lq I (AJ I U40 I hrl.kp) (Lq I (BQ I I I) (Lq I (Qz I) (Nk (Sb 86 false I (by first|rfl|(simp only[m5];omega)|(simp;omega)) (Aa I (Ae (Aw (Kt (Cr I (Lq I (Qi I) (Lm I (AB ?_))))))))))))))))))))
   exact AE (i+1) (by omega) (by omega) (Si I) (λ_ h=>h)
 .exact Aa I (AO (Ab (Ab (Am (Kt (Cs I (Ak I (Ag (Ao I I (λ_ h=>⟨(),rfl,T0,h⟩))))))))))
def cl0 (l:List Opn):Cl:=⟨l,0,.idle⟩
def hm0 (nb nf fl:Nat) (ls:List (List Opn)):HM:=⟨Od nb nf,ls.map cl0,fl,1,0,[],Sc.newM (ls.length+(fl+1))⟩
def hmS (nb nf fl:Nat) (ls:List (List Opn)):HM:=(hm0 nb nf fl ls).setT (kC (hm0 nb nf fl ls) (ls.length+(fl+1)) (Sc.newM (ls.length+(fl+1))))
theorem gm {bH bt:Nat} {vT vO vE:Value} {cc:List CC} {fs:List Nat} (hx:GH x (Od nb nf) 0) (hc:cc.map CC.m=ls.map cl0) (hf:fs.length=fl) (h8:ls.length+(fl+1)<=8) (hol:∀l∈ls,l.length<=1000):HOk ⟨bH,bt,vT,vO,vE,cc,fs,x⟩ (hm0 nb nf fl ls) 0 :=
 ⟨hx,hc,hf,by show _=(ls.map cl0).length+_;rw[mB];rfl,Sc.new_ok (by omega) h8,by show (ls.map cl0).length+_<=8;rw[mB];exact h8,λc hc=>by
  obtain⟨l,hl,rfl⟩:=lP.1 hc
  exact⟨hol l hl,lK _,λh=>by cases h⟩,lJ 0,⟨by show (1:Int)<=1;omega,by show (1:Int)<=_;omega⟩,lJ 0⟩
def ctk (c:CC):Tk:=Tk.c c.b
theorem gn (h:HC):h.tks=h.cc.map ctk++h.fl.map Tk.f++[Tk.e]:=by unfold HC.tks;rw[mj];rfl
theorem bZ:∀(us:List Sv) (ls:List (List Opn)),us.length=ls.length->RWs (us.drop ls.length) (ls.drop ls.length)=[]:=λus ls h=>by
 rw[px (by omega),px (by omega)];rfl
theorem jZ (nf:Nat) (b:Int) (hb:b≠-1):(mo0 nf).frI b 2=none:=by
 unfold Mo.frI
 have:(mo0 nf).find b=none:=by
  refine C8 (λz hz=>?_)
  rw[(mU.1 (show z∈List.replicate nf BL from hz)).2]
  unfold isB BL
  simp[nj hb]
 rw[this]
theorem cd (h1:1<=nb):DK (Od nb nf):=by
 have hf:(Od nb nf).M.frI 0 2=none:=jZ nf 0 (by decide)
 have hl:(Od nb nf).look=ndL:=by unfold Hm.look;rw[hf]
 refine⟨rfl,by rw[hl];exact Kw _,?_,λ_=>⟨bkL,?_,rfl⟩⟩
 .show ((List.replicate nb false).set 0 true)[0]?=some true
  rw[oU (by rw[oy];omega)]
 .show (((List.replicate nb Bk.zero).set 0 Bk.zero).set 0 bkL)[0]?=some bkL
  rw[oU (by rw[nU,oy];omega)]
theorem j6 (t:Int):Con prog 52 [.int .i64 t] Tr [] (λbf:Nat=>ptV bf) Tr (λbf=>[FLE bf t]):=by
 intro w hE hH
 refine E0 func52 I hH ?_
 exact Cs I (Ak I (Cs I (Lm I (Lq I (AP ([.int .i64 t,.int .i64 1,.bool false,.bool false,.pointer none,.int .i64 0,.int .i64 0]) I I (λw=>by kernel_rfl)) (l_e I (AT I I I I (λbf=>Ce [.int .i64 t,.int .i64 1,.bool false,.bool false,.pointer none,.int .i64 0,.int .i64 0] I (Ak I (Ag (Ao I I (λ_ h=>⟨bf,rfl,T0,h⟩)))))))))))
theorem Yd {nb nf fl:Nat} (hb1:1<=nb) (hb2:nb<=256) (hf3:fl<=3) (hn1:1<=ls.length) (hn4:ls.length<=4) (hfr:4*(ls.length+fl)<nf) (hf64:nf<=64) (hol:∀l∈ls,l.length<=24) (hkd:∀l∈ls,∀o∈l,1<=o.kind/\o.kind<=4):Con prog 18 [.agg #[.int .i64 (nb:Int),.int .i64 (nf:Int),.int .i64 (fl:Int),vo]] (λw=>RRo w vo vs ls) [] (λy:HC=>.tuple #[ptV y.bH,.int .i64 0]) (λy=>HOk y (hmS nb nf fl ls) 0) (λy=>y.H (hmS nb nf fl ls)):=by
 intro w hE hH
 have hlen:=hE.len
 refine E0 func18 I hH ?_
 refine Cs I (l_e I (AT I I I I (λbc=>Ce [.int .i64 (nb:Int),.int .i64 (nf:Int),.int .i64 (fl:Int),vo] I (Las I (Ak I (Af (Cs I (Lq I (Cq ([.int .i64 (nb:Int),.int .i64 (nf:Int),.int .i64 (fl:Int),vo]) G27 Z27 0 I (I) (I)) (l_e I (E1 (gl hb1 hb2 hf3 hn1 hn4 hfr hf64 hol hkd) I call49 (λ_ h=>hE.keep h) (λ_ _=>Ak I (Cs I (Mv 2 I (Nk (Sb 13 false I (I) (Aa I (Ae (Kt (Cs I (Lfa U27 I Z3 I (Lo G3 0 I (Lfa U27 I Z3 I (Lo G3 0 I (l_e I (BV (jR hb1 hb2 (by omega) hf64) I I I call50 I Tt (λx hx=>Pre.world (St _ _ (Ad bc 27 [.int .i64 (nb:Int),.int .i64 (nf:Int),.int .i64 (fl:Int),vo]::HQ.H x)) (λ_ h=>h.perm (og (l₂:=[_]))) ?_))))))))))))))))))))))))))
 refine Mv 4 I (Ak I (Af (Cs I (Mv 2 I (Nk (Sb 24 false I (I) (Aa I (Ae (Kt (Cs I (Lm I (Lfa U27 I Z25 I (Lo G25 0 I (l_e I (BV (bY (by omega) (λl hl=>mf (hol l hl) (by decide))) I I I call51 I (λ_ h=>hE.keep h) ?_)))))))))))))))
 rintro⟨vO,us⟩ hus
 dsimp only at hus
 refine Pre.world (St _ _ (AA vO 40 C6 us::Ad bc 27 [.int .i64 (nb:Int),.int .i64 (nf:Int),.int .i64 (fl:Int),vo]::(RWs us ls++HQ.H x))) (λ_ h=>h.perm (List.Perm.cons _ oa)) ?_
 refine Pre.fact (λ_ h=>BW (h.at 0 I)) ?_
 rintro⟨aO,cO,rfl⟩
 refine Lq I (AP ([ptV x.bh,.pointer none,Cb,(.slice aO us.length cO),Cb,.int .u64 1,.int .i64 0]) I I (λw=>by kernel_rfl)) (l_e I (AT I I I I (λbH=>Ce [ptV x.bh,.pointer none,Cb,(.slice aO us.length cO),Cb,.int .u64 1,.int .i64 0] I (Ak I (Af (Cs I (Mv 2 I (Lfa Cn I Z25 I (Lo G25 0 I (Lq I (AJ I U25 I (Hrd 1 I)) (Lm I (Nk (Aj (row0 102 Tk.enc none (Pm [1] I ?_)))))))))))))))
 refine Fp (λ(i:Nat) (vT:Value) (cc:List CC)=>[(1,pV bc),(7,ptV bH),(35,.slice aO us.length cO),(36,.int .i64 (us.length:Int)),(37,.int .i64 (i:Int))]) (λ(i:Nat) (vT:Value) (cc:List CC)=>St w [] (Ad bH 100 [ptV x.bh,.pointer none,vT,(.slice aO us.length cO),Cb,.int .u64 1,.int .i64 0]::AA vT 102 Tk.enc (cc.map ctk)::AA (.slice aO us.length cO) 40 C6 us::Ad bc 27 [.int .i64 (nb:Int),.int .i64 (nf:Int),.int .i64 (fl:Int),vo]::(CLs 0 cc++(RWs (us.drop i) (ls.drop i)++HQ.H x)))) (λ(i:Nat) (vT:Value) (cc:List CC)=>i<=us.length/\cc.length=i/\cc.map CC.m=(ls.take i).map cl0) (λ(i:Nat) (vT:Value) (cc:List CC)=>us.length-i) (0) (Cb) ([]) ⟨lK _,rfl,rfl⟩ (Si I) Ih (λi vT cc hp=>Af ?_)
 obtain⟨hi,hcl,hcm⟩:=hp
 have hkl:(cc.map ctk).length=cc.length:=mB ..
 refine Cr I (Lq I (Ql I) (Ns (CB 38 I (λhlt=>?_) (λhlt=>?_))))
 .obtain⟨s,hs⟩:=gE us i
  obtain⟨l,hl⟩:=gE ls i
  have hts:=MY hl
  have hrd:=Yc us ls i s l hs hl
  refine Ah I (Ae (Ks (Aj (Cs I (Lq I (Ar i I U25 Z40 I (Hrd 2 I) I I) (Lq I (AI i 0 I G40 I I (Hrd 2 I) hs I) (Ak I (Cr I (Mv 3 I (Lfa Cn I Z98 I (Lo G98 0 I (Lm I (Lq I (AP ([s.v,.int .i64 0,.pointer none,.pointer none]) I I (λw=>by kernel_rfl)) (l_e I (AT I I I I (λbk=>Ce [s.v,.int .i64 ((0:Nat):Int),.pointer none,.pointer none] I (Lq rfl (H6 rfl IP (λ_ h=>by cases h) rfl) (l_e I (Ax (sz:=1) [.tmp 49] I I I I I U98 Hv I zeroValue102 I (λb1=>D3 (l_e I (Ap U98 U98 NG I (λ_ h=>AY (h.at 1 I) Tk.enc [(Tk.c bk)] I I) (by simp only[lp,kQ,ob];omega) (λv3=>AM (Av (Lc I (Lfa Cn I Z98 I (Pre.fact (λ_ h=>BW (h.at 0 I)) ?_)))))))))))))))))))))))))))
  rintro⟨aT,cT,hvT⟩
  refine AX (l_e I (AG I I Z98 I I (by rw[hvT];rfl) (ng I) (Ce [ptV x.bh,.pointer none,v3,(.slice aO us.length cO),Cb,.int .u64 1,.int .i64 0] I (AB (Aw (Kt (Cr I (Lq I (Qi I) (Lm I (AB (Pm [0,0,1,1] I ?_)))))))))))
  exact AE ((i+1,v3,cc++[cc0 bk s l])) (by dsimp only;omega) ⟨by dsimp only;omega,by simp[hcl],by rw[hts,mn,mn,hcm];rfl⟩ (Si I) (λ_ h=>by
   dsimp only
   rw[hrd] at h
   rw[mn]
   exact h.perm (Vq [_,_,_,_] cc bk s l _))
 .have hin:i=ls.length:=by omega
  subst hin
  rw[bZ us ls (by omega)]
  rw[lI (lJ _)] at hcm
  have hccn:cc.length=ls.length:=hcl
  refine Aa I (AO (Ab (Ab (Am (Ks (Cs I (Lfa U27 I Z3 I (Lo G3 3 I (Lm I (Nk (Aj ?_)))))))))))
  refine Fp (λ(j:Nat) (vT:Value) (fs:List Nat)=>[(1,pV bc),(7,ptV bH),(56,.int .i64 (fl:Int)),(57,.int .i64 (j:Int))]) (λ(j:Nat) (vT:Value) (fs:List Nat)=>St w [] (Ad bH 100 [ptV x.bh,.pointer none,vT,(.slice aO us.length cO),Cb,.int .u64 1,.int .i64 0]::AA vT 102 Tk.enc (cc.map ctk++fs.map Tk.f)::AA (.slice aO us.length cO) 40 C6 us::Ad bc 27 [.int .i64 (nb:Int),.int .i64 (nf:Int),.int .i64 (fl:Int),vo]::(CLs 0 cc++(FLs cc.length fs++HQ.H x)))) (λ(j:Nat) (vT:Value) (fs:List Nat)=>j<=fl/\fs.length=j) (λ(j:Nat) (vT:Value) (fs:List Nat)=>fl-j) (0) (vT) ([]) ⟨lK _,rfl⟩ (Si I) (λ_ h=>by rw[mb,nS];exact h) (λj vT fs hp=>Af ?_)
  obtain⟨hj,hfl⟩:=hp
  have hkl2:(cc.map ctk++fs.map Tk.f).length=cc.length+fs.length:=by simp
  have hfm:(fs.map Tk.f).length=fs.length:=mB ..
  refine Cr I (Lq I (Ql I) (Ns (CB 58 I (λhlt2=>?_) (λhlt2=>?_))))
  .refine Ah I (Ae (Ks (Aj (Pre.fact (λ_ h=>BW (h.at 1 I)) ?_))))
   rintro⟨aV,cV,rfl⟩
   refine Do8 (rg 18) 379507923 (λw2=>(Ad bH 100 [ptV x.bh,.pointer none,(.slice aV (cc.map ctk++fs.map Tk.f).length cV),(.slice aO us.length cO),Cb,.int .u64 1,.int .i64 0]).at w2) I St.drawn (Hat 0 I) (Md 3 I (Dfa Cn I Z98 I (Dq I (Al I G98 I Ih I) (Md 2 I (Dfa Cn I Z98 I (Dq I (Al I G98 I Ih I) (Dq I (EL I U98 I) (d_e I (BV (j6 _) I I I call52 I Tt (λbf _=>Ai (Hat 1 I) (Dq I (AP ([ptV bf]) I I (λw=>by kernel_rfl)) (Dq rfl (H6 rfl ZT (λ_ h=>by cases h) rfl) (d_e I (Ax (sz:=1) [.tmp 71] I I I I I U98 Hv I zeroValue102 I (λb3=>Ai (Hat 2 I) (D3 (d_e I (Ap U98 U98 NG I (λ_ h=>AY (h.at 1 I) Tk.enc [(Tk.f bf)] I I) (by simp only[lp,kQ,ob];omega) (λv4=>AM (Av (Ai (Hat 2 I) (d_t I (e_q I I (Bw I I) (d_t I (e_q I I (Ba I Cn I Z98 I I) (Pre.fact (λ_ h=>BW (h.at 0 I)) ?_))))))))))))))))))))))))))
   rintro⟨aT,cT,hvT⟩
   refine AX (d_t I (AG I I Z98 I I (by rw[hvT];rfl) (ng I) (Ce [ptV x.bh,.pointer none,v4,(.slice aO us.length cO),Cb,.int .u64 1,.int .i64 0] I (AL (Aw (Kt (Cr I (Lq I (Qi I) (Lm I (AB (Pm [0,0,1,1] I ?_)))))))))))
   exact AE ((j+1,v4,fs++[bf])) (by dsimp only;omega) ⟨by dsimp only;omega,by simp[hfl]⟩ (Si I) (λ_ h=>by
    dsimp only
    rw[hkl2] at h
    rw[mn,<-mj]
    exact h.perm (Vr [_,_,_,_] (CLs 0 cc) cc.length fs bf _))
  .have hjf:j=fl:=by omega
   subst hjf
   refine Aa I (AO (Ab (Ab (Am (Kt (Cs I (Mv 3 I (Lfa Cn I Z98 I (Lo G98 0 I (Lq I (AP (([]:List Value)) I I (λw=>by kernel_rfl)) (Lq rfl (H6 rfl underlying111 (λ_ h=>by cases h) rfl) (l_e I (Ax (sz:=1) [.tmp 83] I I I I I U98 Hv I zeroValue102 I (λb4=>AX (l_e I (Ap U98 U98 NG I (λ_ h=>AY (h.at 1 I) Tk.enc [Tk.e] I I) (by simp only[lp,kQ,ob];omega) (λv5=>AM (Av (Lc I (Lfa Cn I Z98 I (Pre.fact (λ_ h=>BW (h.at 0 I)) ?_)))))))))))))))))))))
   rintro⟨aT,cT,hvT⟩
   have hkl3:((cc.map ctk++fs.map Tk.f)++[Tk.e]).length=ls.length+(j+1):=by simp[hccn,hfl]
   refine AM (l_e I (AG I I Z98 I I (by rw[hvT];rfl) (ng I) (Ce [ptV x.bh,.pointer none,v5,(.slice aO us.length cO),Cb,.int .u64 1,.int .i64 0] I (Ns (Cs I (Mv 3 I (Lfa Cn I Z98 I (Lo G98 0 I (Lq I (AJ I U98 I (Hrd 1 I)) (Sv' 94 (.int .i64 ((ls.length+(j+1):Nat):Int)) I (by rw[hkl3]) (l_e I (AZ (Sc.new_yes (n:=ls.length+(j+1)) (by omega) (by omega)) I I I call53 I Tt (λbt _=>Lm I (Mv 3 I (Lfa Cn I Z97 I (AM (l_e I (AG I I Z97 I I I (ng I) (Ce [ptV x.bh,ptV bt,v5,(.slice aO us.length cO),Cb,.int .u64 1,.int .i64 0] I (Ak I (Cs I (Mv 2 I (Nk (Sb 101 false I (I) (Aa I (Ae (Kt (Cs I (Lm I (row0 71 Evt.enc none (C0 (Av (C0 ?_)))))))))))))))))))))))))))))))))
   refine Av (Pm [1,0,1] I ?_)
   have kz:HOk (⟨bH,bt,v5,(.slice aO us.length cO),Cb,cc,fs,x⟩:HC) (hm0 nb nf j ls) 0:=gm ⟨hx.1,hx.2⟩ hcm hfl (by omega) (λl hl=>mf (hol l hl) (by decide))
   refine Pre.world (St w [] (HC.H (⟨bH,bt,v5,(.slice aO us.length cO),Cb,cc,fs,x⟩:HC) (hm0 nb nf j ls))) (λ_ h=>?_) ?_
   .show St w [] (_::_::AA v5 102 Tk.enc (HC.tks (⟨bH,bt,v5,(.slice aO us.length cO),Cb,cc,fs,x⟩:HC))::_) _
    rw[gn]
    exact h
   refine l_e I (Ee [] (ec kz (cd hb1)) I call42 Tt (λ_ _=>Pw (St _ _ (HC.H (⟨bH,bt,v5,(.slice aO us.length cO),Cb,cc,fs,x⟩:HC) ((hm0 nb nf j ls).setT (kC (hm0 nb nf j ls) (hm0 nb nf j ls).T.n (hm0 nb nf j ls).T)))) ?_))
   exact Nk (Cs I (Mv 2 I (Ak I (Ag (Bg (rs:=[.tmp 2,.tmp 3]) I I (λ_ h=>⟨(⟨bH,bt,v5,(.slice aO us.length cO),Cb,cc,fs,x⟩:HC),rfl,kz.kC _,h⟩))))))
section
variable {P:Program} {n:Nat} {L:Env} {o:Oper} {Q:Exit->Act->World->Prop} {K:Act->World->Prop} {w0:World} {D:List Nat}
theorem Ld {β:Type} {v:β->Value} {p:β->Prop} {E:World->Prop} {HA:List Ent} {HB:β->List Ent} {g:Operand} {f:FuncId} {xs:List Operand} {ts:Array TypeId} {d:Nat} {vs us:List Value} (pre:List Ent) (s:Con P f (vs++us) E HA v p HB) (ho:o.op=.call ⟨.value g,xs.toArray,ts⟩) (hd:o.dst=some d) (hn:d.blt n) (hg:ev L g=some (.func (.func f) #[] us.toArray))
 (hc:∀us w,(callFunc f us).run P w=.ok (.enter f us) w) (hv:evs L xs=some vs) (hE:∀w,St w0 D (pre++HA) w->E w) (h:∀b,p b->Pre n ((d,v b)::L) (St w0 D (pre++HB b)) K):EOp P n L (St w0 D (pre++HA)) o Q K :=
 F1 ho hd hn hg hc hv (λw x=>(s.frame (F:=pre) (x.perm og) (hE w x)).mono (λe w' ⟨b,he,hp,h'⟩=>⟨b,he,hp,h'.perm og⟩)) h
end
theorem Ye (bw:Nat):Con prog 55 [.slice (some ⟨bw,0,none⟩) 1 1] Tr [Ad bw 3 [.int .i64 0]] (λ_:Unit=>.tuple #[.slice (some ⟨bw,0,none⟩) 0 1,.int .i64 0]) Tr (λ_=>[Ad bw 3 [.int .i64 0]]):=by
 intro w hE hH
 refine Ey func55 I hH ?_
 exact Cs I (Las I (Ak I (Af (Do8 (rg 13) 1062882 (λw2=>(Ad bw 3 [.int .i64 0]).at w2) I St.drawn (Hat 0 I) (Md 2 I (Dq I (EL I U22 I) (Dq I (CM I I I (by decide)) (Dq I (FG 0 I U22 Z3 I I (by decide) (by decide)) (Md 2 I (Dq I (EL I U22 I) (Dq I (CM I I I (by decide)) (Dq I (Gl 0 I U22 Z3 I I (by decide) (by omega)) (Dq I (Al I G3 I Ih I) (Das I (d_t I (e_q I I (AF I I) (AL (Kt (Ag (Bg (rs:=[.tmp 2,.tmp 3]) I I (λ_ h=>⟨(),rfl,T0,h⟩)))))))))))))))))))))
theorem vat (h:x.Ok B) (hQ:DK x.hm) (pa:Option Addr) (ca:Nat):Con prog 56 [ptV x.bh,.slice pa 0 ca,.int .i64 0] Tr (x.H) (λs:N4=>.agg (⟨s,x.hm.look⟩:NV).c.toArray) Tr (λs=>Bz (⟨s,x.hm.look⟩:NV)++x.H):=by
 intro w hE hH
 refine Ey func56 I hH (Cs I (l_e I (Au I I I zeroValue135 (λbr=>Ce nv0.c I (Nk (Cs I (Mv 2 I (l_e I (Ee [_] (Ya h hQ) I call71 Tt (λs _=>Pw (St _ _ (_::_::_::_::_::HQ.H (x))) ?_))))))))))
 refine Mv 3 I (l_e I (Au I I I zeroValue135 (λbn=>Ce nv0.c I (l_e I (SW AU I (NV.one _) (Ak I (Af (Cs I (Mv 5 I (l_e I (E1 (Lt.contains_spec (va:=.slice pa 0 ca) ([]:List Int) 0 (by decide)) I call105 (λ_ _=>⟨pa,ca,rfl,lK _,.inl rfl⟩) (λ_ _=>Lq I (Qz I) (Nk (Sb 21 false I (by simp) (Aa I (Ae (Kt (Cs I (Lq I (Cq ((⟨s,x.hm.look⟩:NV).c) Bx AU 0 I (I) (I)) (AM (l_e I (SW AU I (NV.one _) (Nk (Ag (Pm [2,2,2,2,2,2,2,2,2,2] I ?_)))))))))))))))))))))))))
 exact Pm [11,10] I (Av (CJ I (AK I Bx AU (Hat 0 I) (I)) (λ_ h=>⟨s,rfl,T0,h.drop⟩)))
theorem gp (h:x.Ok B) (hQ:DK x.hm) (hlf:x.hm.look.leaf) (bw bv bf:Nat):Con prog 54 [.slice (some ⟨bw,0,none⟩) 1 1,pV bv,pV bf] Tr (Ad bw 3 [.int .i64 0]::Ad bv 47 [ptV x.bh]::x.H) (λv:Value=>v) Tr (λv=>AA v 79 En.enc x.hm.look.es::Ad bw 3 [.int .i64 0]::Ad bv 47 [ptV x.bh]::x.H):=by
 intro w hE hH
 refine Ey func54 I hH (Cs I (Ak I (Cs I (Lm I (l_e I (Bf (Ye bw) I I I call55 I Tt (λ_ _=>Lm I (Mv 3 I (Ak I (Cs I (Lo G47 1 I (Mv 2 I (l_e I (Ee [_,_] (vat h hQ _ _) I call56 Tt (λs _=>Pw (St _ _ (_::_::_::_::_::_::HQ.H (x))) ?_)))))))))))))))
 refine l_e I (Au I I I zeroValue135 (λbn=>Ce nv0.c I (l_e I (SW AU I (NV.one _) (Ns (Cs I (Lfa Cu I Z4 I (Lo G4 0 I (Nk (Sb 21 true I (hlf) (Ah I (Cs I (Lfa Cu I Z49 I (Lo G49 0 I (Ak I (Ag (Ac (Pm [2,6,6,6,6,6,6] I (Pm [7,8,8,8,8,7] I (Av ?_))))))))))))))))))))
 skip
 exact Ao I I (λ_ h=>⟨s.e.v,rfl,T0,h.sublist (List.Sublist.cons_cons _ ((List.Sublist.cons _ (List.Sublist.cons _ (List.Sublist.cons _ (oW _))))))⟩)
theorem jr (h:x.Ok B) (hQ:DK x.hm) (hlf:x.hm.look.leaf):Con prog 20 [ptV x.bh] Tr (x.H) (λv:Value=>v) Tr (λv=>AA v 79 En.enc x.hm.look.es::x.H):=by
 intro w hE hH
 refine Ey func20 I hH (Cs I (l_e I (AT I I I I (λbv=>Ce [ptV x.bh] I (Ak I (Cs I (l_e I (Au I I I zeroValue129 (λbf=>Nk (Cs I (Lq I (C3 (fn:=.func 0) (us:=#[pV bv,pV bf]) 54 I (vs:=#[]) (λa k=>by simp) (λa k=>by simp[k.eval (x:=.tmp 1) rfl,k.eval (x:=.tmp 3) rfl])) (l_e I (AG I I sizeOf129 I I I (ng I) (Ce [.func (.func 54) #[] #[pV bv,pV bf]] I (Nk (Cs I (Lo isAgg129 0 I (l_e I (Ax (sz:=1) [.const (.int .i64 0)] I I I I I U22 Z3 I zeroValue3 I (λbw=>Pm [1] I (l_e I (Ld [_] (vs:=[.slice (some ⟨bw,0,none⟩) 1 1]) (us:=[pV bv,pV bf]) (gp h hQ hlf bw bv bf) I I I I call54 I Tt (λv _=>Pw (St _ _ (_::_::_::_::HQ.H x)) ?_)))))))))))))))))))))))
 exact Ak I (Ag (Pm [0,1,1] I (Av (Av (Av (Ao I I (λ_ h=>⟨v,rfl,T0,h⟩)))))))
theorem j7 {z:HC} {m:HM} (k:HOk z m B) (hQ:DK m.L) (hlf:m.L.look.leaf):Con prog 20 [ptV z.x.bh] Tr (z.H m) (λv:Value=>v) Tr (λv=>AA v 79 En.enc m.L.look.es::z.H m):=by
 have hv:=jr k.lh.ok (by rw[k.lh.hm];exact hQ) (by rw[k.lh.hm];exact hlf)
 rw[k.lh.hm] at hv
 have hp:(z.H m).Perm (z.x.H++(HSE z.bH (ptV z.x.bh) z.bt z.vT z.vO z.vE m.sq m.pk::AA z.vE 71 Evt.enc m.ev::AA z.vT 102 Tk.enc z.tks::Ad z.bt 171 (Sc.kH m.T)::(CLs 0 z.cc++FLs z.cc.length z.fl))):=by
  have h1:z.H m=(HSE z.bH (ptV z.x.bh) z.bt z.vT z.vO z.vE m.sq m.pk::AA z.vE 71 Evt.enc m.ev::AA z.vT 102 Tk.enc z.tks::Ad z.bt 171 (Sc.kH m.T)::(CLs 0 z.cc++FLs z.cc.length z.fl))++z.x.H:=by
   show _::_::_::_::(CLs 0 z.cc++(FLs z.cc.length z.fl++z.x.H))=_::_::_::_::((CLs 0 z.cc++FLs z.cc.length z.fl)++z.x.H)
   rw[mj]
  rw[h1]
  exact og
 exact Con.pack _ hv hp (λ_ _ _=>trivial) id (λv _=>⟨rfl,T0,[],by rw[nS];exact (hp.symm.cons _)⟩)
theorem Yf (h:x.Ok B):Con prog 97 [ptV x.bc] Tr x.H (λb:Value×List FC=>b.1) (λb=>b.2.map _root_.Go.Proofs.YtloldofjddbjoaaGreat.vw=x.q.M.fr) (λb=>AA b.1 202 FC.encA b.2::x.H):=λw he hh =>
 (aP h w he hh).mono (λe w' ⟨b,h1,h2,h3⟩=>⟨(b.1,b.2.1),h1,h2.1,h3.sublist (List.Sublist.cons_cons _ (pq _ _))⟩)
theorem ed (h:x.Ok B) {k:Nat} {l:LC} (h0:x.lt[k]?=some l):Con prog 98 [ptV l.b] Tr x.H (λ_:Unit=>.bool (Lt.idleB l.m)) Tr (λ_=>x.H) :=
 HQ.lookL (A':=λ_:Unit=>[]) h0 (Lt.idle_spec (h.l l (mQ h0)) h.b9 l.b l.vR l.vQ) (λ_ _ _=>trivial)
structure Yg (L:Hm):Prop where
 fr:∀v∈L.M.fr,(v.st=0\/v.st=2)/\v.pins=0
 la:∀l∈L.la,Lt.idleB l=true
 ln:L.M.line=[]
theorem js (h:x.Ok B) (hI:Yg x.hm):Con prog 48 [ptV x.bh] Tr (x.H) (λ_:Unit=>.bool true) Tr (λ_=>x.H):=by
 intro w hE hH
 refine Ey func48 I hH (Af ?_)
 have hll:(x.lt.map LC.b).length=x.lt.length:=mB ..
 have hl6:x.lt.length<=64:=by rw[h.ll];exact h.q.ok.n64
 have hlf:=h.ll
 refine Cr I (Ak I (Af (Cs I (Mv 2 I (Lfa U91 I Z86 I (Lo G86 0 I (l_e I (Ee [] (Yf h) I call97 Tt ?_))))))))
 rintro⟨vf,fs⟩ hfs
 refine Pw (St _ _ (_::HQ.H (x))) ?_
 dsimp only at hfs
 have hfl:fs.length=x.lt.length:=by rw[hlf,<-hfs,mB]
 refine Lq I (AJ I Wf I (Hrd 0 I)) (Lm I (Nk (Aj ?_)))
 refine A0 (λ(i:Nat)=>[(0,ptV x.bh),(9,vf),(10,.int .i64 (fs.length:Int)),(11,.int .i64 (i:Int))]) (λ(i:Nat)=>St w (dom x.H) (AA vf 202 FC.encA fs::x.H)) (λ(i:Nat)=>i<=fs.length) (λ(i:Nat)=>fs.length-i) (0) (lK _) (Si I) Ih (λi hi=>Cs I (Lq I (Ql I) (Ns ?_)))
 refine CB 12 I (λhlt=>?_) (λhlt=>?_)
 .obtain⟨f,hf⟩:=gE fs i
  obtain⟨l,h0⟩:=gE x.lt i
  have hy:(x.lt.map LC.b)[i]?=some l.b:=by rw[lS,h0];rfl
  have hfr:=hI.fr (_root_.Go.Proofs.YtloldofjddbjoaaGreat.vw f) (by show _∈x.q.M.fr;rw[<-hfs];exact lP.2 ⟨f,mQ hf,rfl⟩)
  have hs:f.st=0\/f.st=2:=hfr.1
  have hp:f.pins=0:=hfr.2
  have hid:=hI.la l.m (pd (mQ h0))
  refine Ah I (Ae (Ks (Aj (Cs I (Lm I (Lq I (Ar i I Wf sizeOf202 I (Hrd 0 I) I I) (Lq I (AV i I isAgg202 sizeOf202 I I (Hrd 0 I) hf) (l_e I (Au I I I zeroValue202 (λbg=>Las I (l_e I (Az I I sizeOf202 I I I (FC.oneA f) (by show 0+13<=13;decide) (Ce (FC.cA f) (Sep.ku I) (Nk (Cs I (Lfa ZU I Z3 I (Lo G3 0 I (Mv 2 I ?_))))))))))))))))))
  rcases hs with hs|hs
  .refine Sb 19 false I (by first|rfl|(rw[hs];rfl)|(rw[hp];rfl)|(simp only[m5];omega)) (Mv 5 I (Lfa ZU I Z3 I (Lo G3 0 I (Lq I (BQ I I I) (Mv 2 I (Sb 29 false I (by first|rfl|(rw[hs];rfl)|(rw[hp];rfl)|(simp only[m5];omega)) (Mv 2 I (Lfa U91 I Z88 I (Lo isAgg88 2 I (Lm I (Lq I (Ar i I U88 sizeOf203 I (Hrd 3 I) I I) (Lq I (AI i 0 I isAgg203 I I (Hrd 3 I) hy I) (Pm [3,3,3,3,3] I (Pm [5,5,5] I (l_e I (Ee [_,_] (ed h h0) I call98 Tt (λ_ _=>Pw (St _ _ (_::_::HQ.H (x))) ?_)))))))))))))))))
   refine Sv' 37 (.bool true) I (by rw[hid]) (Mv 2 I (Nk (Aa I (Ae (Aw (Kt (Cr I (Lq I (Qi I) (Lm I (AB (Av ?_)))))))))))
   exact AE (i+1) (by omega) (by omega) (Si I) (λ_ h=>h)
  .refine Sb 19 true I (by first|rfl|(rw[hs];rfl)|(rw[hp];rfl)|(simp only[m5];omega)) (Lfa ZU I Z3 I (Lo G3 0 I (Mv 3 I (Sb 24 false I (by first|rfl|(rw[hs];rfl)|(rw[hp];rfl)|(simp only[m5];omega)) (Lfa ZU I Z3 I (Lo G3 0 I (Lq I (BQ I I I) (Mv 2 I (Sb 29 false I (by first|rfl|(rw[hs];rfl)|(rw[hp];rfl)|(simp only[m5];omega)) (Mv 2 I (Lfa U91 I Z88 I (Lo isAgg88 2 I (Lm I (Lq I (Ar i I U88 sizeOf203 I (Hrd 3 I) I I) (Lq I (AI i 0 I isAgg203 I I (Hrd 3 I) hy I) (Pm [4,4,4,4] I ?_))))))))))))))))
   refine Pm [4,4,4,4] I (l_e I (Ee [_,_] (ed h h0) I call98 Tt (λ_ _=>Pw (St _ _ (_::_::HQ.H (x))) (Sv' 37 (.bool true) I (by rw[hid]) (Mv 2 I (Nk (Aa I (Ae (Aw (Kt (Cr I (Lq I (Qi I) (Lm I (AB (Av ?_)))))))))))))))
   exact AE (i+1) (by omega) (by omega) (Si I) (λ_ h=>h)
 .refine Aa I (AO (Ab (Ab (Am (Kt (Cs I (Mv 2 I (Lfa U91 I Z86 I (Lo G86 1 I (l_e I (Ee [_] (dS h) I call99 Tt (λv _=>Pw (St _ _ (_::_::HQ.H (x))) ?_))))))))))))
  exact Lq I (AJ I U22 I (Hrd 1 I)) (Lq I (Qe I) (Ak I (Ag (Pm [1] I (Av (Av (Ao I I (λ_ hh=>⟨(),congrArg Eb (by rw[show x.q.M.line=[] from hI.ln];rfl),T0,hh⟩))))))))
theorem jt {z:HC} {m:HM} (k:HOk z m B) (hI:Yg m.L):Con prog 48 [ptV z.x.bh] Tr (z.H m) (λ_:Unit=>.bool true) Tr (λ_=>z.H m):=by
 have hp:(z.H m).Perm (z.x.H++(HSE z.bH (ptV z.x.bh) z.bt z.vT z.vO z.vE m.sq m.pk::AA z.vE 71 Evt.enc m.ev::AA z.vT 102 Tk.enc z.tks::Ad z.bt 171 (Sc.kH m.T)::(CLs 0 z.cc++FLs z.cc.length z.fl))):=by
  have h1:z.H m=(HSE z.bH (ptV z.x.bh) z.bt z.vT z.vO z.vE m.sq m.pk::AA z.vE 71 Evt.enc m.ev::AA z.vT 102 Tk.enc z.tks::Ad z.bt 171 (Sc.kH m.T)::(CLs 0 z.cc++FLs z.cc.length z.fl))++z.x.H:=by
   show _::_::_::_::(CLs 0 z.cc++(FLs z.cc.length z.fl++z.x.H))=_::_::_::_::((CLs 0 z.cc++FLs z.cc.length z.fl)++z.x.H)
   rw[mj]
  rw[h1]
  exact og
 exact Con.pack _ (js k.lh.ok (by rw[k.lh.hm];exact hI)) hp (λ_ _ _=>trivial) id (λv _=>⟨rfl,T0,[],by rw[nS];exact hp.symm⟩)
namespace Lt
theorem Oi (u:Int):∀(q:List Wt) (m:La),u∈m.rd->u∈(Fc q m).2.rd
 |[],m,h=>h
 |w::q,m,h=>by
  unfold Fc
  split
  .refine Oi u q _ ?_
   unfold giveL;split
   .exact h
   .exact ins_mem.2 (.inr h)
  .exact h
theorem TF (hu:u≠-1):∀(q:List Wt) (m:La),m.wr=u->(Fc q m).2.wr=u
 |[],m,h=>h
 |w::q,m,h=>by
  unfold Fc
  rw[lz]
  .exact h
  .intro ho;have:=(openB_iff.1 ho).1;omega
theorem Qh (hu:u≠-1):∀(q:List Wt) (m:La),(u,b)∈q->(u,b)∈(Fc q m).2.q\/(if b=true then (Fc q m).2.wr=u else u∈(Fc q m).2.rd)
 |[],m,h=>by cases h
 |w::q,m,h=>by
  unfold Fc
  split
  .rename_i ho
   rcases kN.1 h with e|e
   .subst e
    refine .inr ?_
    cases b with
    |true=>exact TF hu q _ rfl
    |false=>exact Oi u q _ (by show u∈ins u m.rd;exact ins_mem.2 (.inl rfl))
   .exact Qh hu q _ e
  .exact .inl h
theorem take_stable {m:La} (h:Stable m) (t:Int) (w:Bool):Stable (takeL m t w):=by
 unfold takeL
 split
 .rename_i hm
  split
  .rename_i ht
   intro x q e
   unfold tryB at ht
   simp only[mz,mS] at ht
   have:(giveL m t w).q=m.q:=by unfold giveL;split<;>rfl
   rw[this] at e
   rw[e] at ht;simp at ht
  .rename_i ht
   intro x q e
   show openB m x.2=false
   have e2:m.q++[(t,w)]=x::q:=e
   cases hq:m.q with
   |nil =>
    rw[hq] at e2;cases e2
    unfold tryB at ht
    rw[hm,hq] at ht
    simpa using ht
   |cons y ys =>
    rw[hq] at e2;cases e2
    exact h _ _ hq
 .exact h
theorem take_self {m:La} (ht:0<=t) (hn:t∉tasks m) (h0:m.Ok0) (w:Bool):(t,w)∈(takeL m t w).q\/(if w=true then (takeL m t w).wr=t else t∈(takeL m t w).rd):=by
 have hm:mayB m t=true:=by rw[h0.may t ht];exact od hn
 unfold takeL
 rw[lu hm]
 split
 .refine .inr ?_
  unfold giveL
  cases w with
  |true=>rfl
  |false=>exact ins_mem.2 (.inl rfl)
 .exact .inl (nK _ (by simp))
theorem take_q {m:La} {x:Wt} (h:x∈m.q):x∈(takeL m t w).q:=by
 unfold takeL
 split
 .split
  .have:(giveL m t w).q=m.q:=by unfold giveL;split<;>rfl
   rw[this];exact h
  .exact lO _ h
 .exact h
theorem take_rd {m:La} (h:u∈m.rd):u∈(takeL m t w).rd:=by
 unfold takeL
 split
 .split
  .unfold giveL;split
   .exact h
   .exact ins_mem.2 (.inr h)
  .exact h
 .exact h
theorem take_wr {m:La} (hu:u≠-1) (h:m.wr=u):(takeL m t w).wr=u:=by
 unfold takeL
 split
 .split
  .rename_i ht
   unfold tryB at ht
   simp only[mz] at ht
   have:=(openB_iff.1 ht.2).1
   omega
  .exact h
 .exact h
theorem take_tasks {m:La} (ht:0<=t) (h:u∈tasks (takeL m t w)):u=t\/u∈tasks m:=by
 unfold takeL at h
 split at h
 .split at h
  .rename_i ht2
   unfold tryB at ht2
   simp only[mz] at ht2
   have:=(F7 ht ht2.2).mem_iff.1 h
   exact kN.1 this
  .simp only[tasks,HU,mn,mT,ma,mb,nq] at h ⊢
   rcases h with h|h|h|h
   .exact .inr (.inl h)
   .exact .inr (.inr (.inl h))
   .exact .inr (.inr (.inr h))
   .exact .inl h
 .exact .inr h
theorem drop_tasks {m:La} (h0:m.Ok n) {t u:Int} (ht:0<=t) (h:u∈tasks (dropL m t).2):u≠t/\u∈tasks m:=by
 unfold dropL at h
 rw[lz (by omega)] at h
 have hp:=JF h0.toOk0 ht
 have hl:(leaveL m t).Ok0:=(leave_ok h0 ht).toOk0
 have h2:=(Tl (leaveL m t).q (leaveL m t) hl).2.mem_iff.1 h
 rw[show ({leaveL m t with q:=(leaveL m t).q}:La)=leaveL m t from rfl,hp] at h2
 have h3:=oD.1 h2
 exact⟨by simpa using h3.2,h3.1⟩
theorem drop_q {m:La} (ht:0<=t) (hu:u≠-1) (hn:u≠t) (h:(u,b)∈m.q):(u,b)∈(dropL m t).2.q\/(if b=true then (dropL m t).2.wr=u else u∈(dropL m t).2.rd):=by
 unfold dropL
 rw[lz (by omega)]
 exact Qh hu _ _ (oD.2 ⟨h,by simpa using hn⟩)
theorem drop_rd {m:La} (ht:0<=t) (hn:u≠t) (h:u∈m.rd):u∈(dropL m t).2.rd:=by
 unfold dropL
 rw[lz (by omega)]
 exact Oi u _ _ (oD.2 ⟨h,by simpa using hn⟩)
theorem drop_wr {m:La} (ht:0<=t) (hu:u≠-1) (hn:u≠t) (h:m.wr=u):(dropL m t).2.wr=u:=by
 unfold dropL
 rw[lz (by omega)]
 refine TF hu _ _ ?_
 show (if m.wr=t then -1 else m.wr)=u
 rw[lz (by omega)];exact h
theorem drop_stable {m:La} (ht:0<=t):Stable (dropL m t).2:=by
 unfold dropL
 rw[lz (by omega)]
 exact PX _ _
end Lt
theorem EU (o:Opn):kck (kOf o)=true:=by
 unfold kOf
 split
 .exact Ww _ _ _
 .decide
namespace Lo
structure Lf where
 n:Nat
 s:Sto
 r:Vw
 ld:List Int
 cl:Nat
 ct:Int
 la:Lt.La
 rt:Option Int
def cf (t:Int):Vw:=⟨3,-1,t,1,false,false,nd0⟩
def lfd (es:List En):Nd:=⟨true,es,[],[],[]⟩
namespace Lf
def rest (L:Lf):List Vw:=List.replicate L.cl (cf L.ct)++List.replicate (L.n-1-L.cl) BL
def M (L:Lf):Mo:=⟨L.r::L.rest,L.ld.map (λt=>(t,0)),[],0⟩
def las (L:Lf):List Lt.La:=L.la::List.replicate (L.n-1) Lt.newL
def rds (L:Lf):List (Int×Int):=match L.rt with|none=>[]|some t=>[(0,t)]
structure Ok (L:Lf):Prop where
 n5:5<=L.n
 c2:L.cl<=2
 s0:L.s.us[0]?=some true
 b0:∃bk:Bk,L.s.bl[0]?=some bk/\bk.l=DH
 st:L.r=BL\/(L.r.st=1/\L.r.blk=0)\/(L.r.st=2/\L.r.blk=0)
 nd:L.r.st=2->∃es,L.r.nd=lfd es/\BG es/\Cv (lfd es)=true
theorem Yh {L:Lf} {b:Int}:∀f∈L.rest,isB b f=false:=λf hf=>by
 rcases mT.1 hf with h|h
 .rw[(mU.1 h).2];simp[isB,cf]
 .rw[(mU.1 h).2];simp[isB,BL]
theorem fst1_cons {p:α->Bool} {x:α} {l:List α}:B7 p (x::l)=if p x=true then some 0 else (B7 p l).map (·+1):=by
 unfold B7;rw[oT]
theorem Ok.find {L:Lf} (h:L.Ok):L.M.find 0=if L.r.st=0 then none else some 0:=by
 show B7 (isB 0) (L.r::L.rest)=_
 rw[fst1_cons,C8 Yh]
 rcases h.st with e|⟨e1,e2⟩|⟨e1,e2⟩
 .rw[e]
  rfl
 .simp[isB,e1,e2]
 .simp[isB,e1,e2]
theorem Yi (m:Nat) (hm:0<m):B7 isF (List.replicate n (cf t)++List.replicate m BL)=some n:=by
 refine C7 (y:=BL) ?_ (by simp[isF,BL]) (λz hz=>?_)
 .rw[lx (by simp),oy,Nat.sub_self,mO,lu hm]
 .rw[nX (by simp),lI (by simp)] at hz
  rw[(mU.1 hz).2];simp[isF,cf]
theorem Ok.free {L:Lf} (h:L.Ok):L.M.freeI=if L.r.st=0 then some 0 else some (L.cl+1):=by
 have:=h.n5
 have:=h.c2
 show B7 isF (L.r::L.rest)=_
 rw[fst1_cons]
 unfold rest
 rw[Yi _ (by omega)]
 by_cases e:L.r.st=0
 .simp[isF,e]
 .simp[isF,e]
theorem Ok.takes {L:Lf} (h:L.Ok) (t:Int):L.M.takes t=if L.r.st=0 then some 0 else some (L.cl+1):=by
 unfold Mo.takes
 rw[lu (show L.M.turn t=true from rfl),h.free]
theorem Le (L:Lf) (t:Int):L.M.stand t=none:=rfl
theorem waits_iff (L:Lf) (t:Int):L.M.waits t=decide (t∈L.ld):=by
 show (L.ld.map (λt=>((t,0):Int×Int))).any (isT t)=_
 rw[mR]
 simp[isT,nk]
theorem Qj {L:Lf} (b:Int) (ht:tkB t) (hl:t∉L.ld):L.M.mayW t b=true:=by
 unfold Mo.mayW
 rw[ht,waits_iff,oc hl,Le];rfl
theorem may_iff (L:Lf) (t:Int):L.M.may t=(tkB t&&!decide (t∈L.ld)):=by
 unfold Mo.may
 rw[waits_iff,Le];simp
def pin (L:Lf) (t:Int):Int×Lf :=
 if L.r.st=0 then (3,{L with r:=⟨1,0,0,1,true,false,nd0⟩,rt:=some t})
 else if L.r.st=2 then (1,{L with r:={L.r with pins:=L.r.pins+1,ref:=true}})
 else (2,{L with r:={L.r with pins:=L.r.pins+1,ref:=true},ld:=L.ld++[t]})
theorem at0 (L:Lf):L.M.at' 0=L.r:=rfl
theorem Ok.pin {L:Lf} (h:L.Ok) {t:Int} (ht:tkB t) (hl:t∉L.ld):L.M.pin t 0=((L.pin t).1,(L.pin t).2.M):=by
 unfold Mo.pin Lf.pin
 rw[Qj 0 ht hl,h.find,h.takes]
 by_cases e:L.r.st=0
 .simp only[e,mA]
  rfl
 .simp only[e,nz]
  by_cases e2:L.r.st=2
  .simp only[at0,e2,mA]
   rfl
  .simp only[at0,e2,nz]
   refine congrArg (Prod.mk 2) ?_
   unfold M
   simp only[mn]
   rfl
theorem Ok.pin_ok {L : Lf} (h : L.Ok) (t : Int) : (L.pin t).2.Ok := by
  unfold Lf.pin
  split
  · exact ⟨h.n5, h.c2, h.s0, h.b0, .inr (.inl ⟨rfl, rfl⟩), λe => by cases e⟩
  · split
    · rename_i h0 h2
      exact ⟨h.n5, h.c2, h.s0, h.b0, .inr (.inr ⟨h2, by rcases h.st with e | e | e;· exact absurd (by rw [e];rfl) h0
                                                        · exact e.2
                                                        · exact e.2⟩), h.nd⟩
    · rename_i h0 h2
      exact ⟨h.n5, h.c2, h.s0, h.b0, .inr (.inl (by rcases h.st with e | e | e;· exact absurd (by rw [e];rfl) h0
                                                    · exact e
                                                    · exact absurd e.1 h2)), h.nd⟩
def fill (L:Lf):Lf:={L with r:={L.r with st:=2,nd:=lfd []},ld:=[],rt:=none}
theorem Ok.frI1 {L:Lf} (h:L.Ok) (st:Int) (h0:st≠0):L.M.frI 0 st=if L.r.st=st then some 0 else none:=by
 unfold Mo.frI
 rw[h.find]
 by_cases e:L.r.st=0
 .have:¬(0:Int)=st:=λx=>h0 x.symm
  simp[e,this]
 .rw[lz e];rfl
theorem Yj (L:Lf):L.M.told 0=L.ld:=by
 unfold Mo.told
 show ((L.ld.map (λt=>((t,0):Int×Int))).filter (λq=>decide (q.2=0))).map Prod.fst=_
 rw[List.filter_eq_self.2 (by intro a ha;obtain⟨t,_,rfl⟩:=lP.1 ha;rfl),mY]
 exact List.map_id' _
theorem Ok.fill {L:Lf} (h:L.Ok) (h1:L.r.st=1):L.M.fill 0 (lfd [])=((L.ld,true),L.fill.M):=by
 unfold Mo.fill
 rw[h.frI1 1 (by decide),lu h1,Yj]
 refine congrArg (Prod.mk _) ?_
 have:L.M.loads.filter (λq=>!decide (q.2=0))=[]:=by
  rw[List.filter_eq_nil_iff]
  intro a ha
  obtain⟨t,_,rfl⟩:=lP.1 (show a∈L.ld.map (λt=>((t,0):Int×Int)) from ha)
  simp
 rw[this]
 rfl
theorem Yk:BG []:=List.Pairwise.nil
theorem Ok.fill_ok {L:Lf} (h:L.Ok) (h1:L.r.st=1):L.fill.Ok:=⟨h.n5,h.c2,h.s0,h.b0,.inr (.inr ⟨rfl,by
 rcases h.st with e|e|e
 .rw[e] at h1;cases h1
 .exact e.2
 .exact e.2⟩),λ_=>⟨[],rfl,Yk,Tj⟩⟩
theorem Ok.node {L:Lf} (h:L.Ok):L.M.node 0=if L.r.st=2 then (L.r.nd,true) else (nd0,false):=by
 unfold Mo.node Mo.ready
 rw[h.frI1 2 (by decide)]
 by_cases e:L.r.st=2
 .simp[e,at0]
 .simp[e]
def setN (L:Lf) (es:List En):Lf:={L with r:={L.r with dirty:=true,nd:=lfd es}}
theorem Ok.setN {L:Lf} (h:L.Ok) (h2:L.r.st=2) (es:List En):L.M.setN 0 (lfd es)=(true,(L.setN es).M):=by
 unfold Mo.setN Mo.ready
 rw[h.frI1 2 (by decide),lu h2]
 rfl
theorem Ok.blk {L:Lf} (h:L.Ok) (h0:L.r.st≠0):L.r.blk=0:=by
 rcases h.st with e|e|e
 .exact absurd (by rw[e];rfl) h0
 .exact e.2
 .exact e.2
theorem Ok.setN_ok {L:Lf} (h:L.Ok) (h2:L.r.st=2) {es:List En} (hr:BG es) (hf:Cv (lfd es)):(L.setN es).Ok:=⟨h.n5,h.c2,h.s0,h.b0,.inr (.inr ⟨h2,h.blk (by rw[h2];decide)⟩),λ_=>⟨es,rfl,hr,hf⟩⟩
def unpin (L:Lf):Lf:=if L.r.pins=0 then L else {L with r:={L.r with pins:=L.r.pins-1}}
theorem Ok.unpin {L:Lf} (h:L.Ok) (h2:L.r.st=2):(L.M.unpin 0).2=L.unpin.M:=by
 unfold Mo.unpin Mo.ready Lf.unpin
 rw[h.frI1 2 (by decide),lu h2]
 simp only[at0]
 by_cases e:L.r.pins=0
 .simp only[e,mA]
 .simp only[e,nz];rfl
theorem Ok.unpin_ok {L:Lf} (h:L.Ok):L.unpin.Ok:=by
 unfold Lf.unpin
 split
 .exact h
 .rename_i hp
  refine⟨h.n5,h.c2,h.s0,h.b0,?_,h.nd⟩
  rcases h.st with e|e|e
  .exact absurd (by rw[e];rfl) hp
  .exact .inr (.inl e)
  .exact .inr (.inr e)
def claim (L:Lf) (t:Int):Lf:={L with cl:=L.cl+1,ct:=t}
theorem TG (a b:α):∀(k m:Nat),0<m->(List.replicate k a++List.replicate m b).set k a=List.replicate (k+1) a++List.replicate (m-1) b
 |0,m,h=>by cases m with
  |zero=>omega
  |succ m=>rfl
 |k+1,m,h=>by
  rw[lC,kP,nO,TG a b k m h,lC (n:=k+1),kP]
theorem Ok.claim {L:Lf} (h:L.Ok) {t:Int} (ht:tkB t) (hl:t∉L.ld) (h0:L.r.st≠0) (hc:L.cl=0\/L.ct=t):L.M.claim t=(true,(L.claim t).M):=by
 have h5:=h.n5
 have h2:=h.c2
 unfold Mo.claim
 rw[Qj (-1) ht hl,h.takes,lz h0]
 simp only[Bool.true_eq_false,nz]
 refine congrArg (Prod.mk _) ?_
 have hr:L.rest=List.replicate L.cl (cf t)++List.replicate (L.n-1-L.cl) BL:=by
  unfold rest
  rcases hc with e|e
  .rw[e];rfl
  .rw[e]
 have hs:(L.r::L.rest).set (L.cl+1) (cf t)=L.r::(L.claim t).rest:=by
  rw[nO,hr,TG _ _ _ _ (by omega)]
  unfold rest Lf.claim
  show _=L.r::(List.replicate (L.cl+1) (cf t)++List.replicate (L.n-1-(L.cl+1)) BL)
  rw[show L.n-1-L.cl-1=L.n-1-(L.cl+1) by omega]
 show (⟨(L.r::L.rest).set (L.cl+1) (cf t),L.M.loads,[],0⟩:Mo)=_
 rw[hs]
 rfl
theorem Ok.claim_ok {L:Lf} (h:L.Ok) (t:Int) (hc:L.cl<=1):(L.claim t).Ok:=⟨h.n5,by show L.cl+1<=2;omega,h.s0,h.b0,h.st,h.nd⟩
def give (L:Lf):Lf:={L with cl:=0}
theorem Ok.r3 {L:Lf} (h:L.Ok):L.r.st≠3:=by
 rcases h.st with e|e|e
 .rw[e];decide
 .rw[e.1];decide
 .rw[e.1];decide
theorem Ok.give {L:Lf} (h:L.Ok) {t:Int} (hc:L.cl=0\/L.ct=t):L.M.give t=L.give.M:=by
 have h5:=h.n5
 have h2:=h.c2
 have hr:(L.r::L.rest).map (λf=>if isC t f=true then BL else f)=L.r::L.give.rest:=by
  rw[ma,lz (by simp[isC,h.r3])]
  unfold rest Lf.give
  rw[mn,mC,mC]
  have hf:(if isC t BL=true then BL else BL)=BL:=by split<;>rfl
  rw[hf]
  have hcl:List.replicate L.cl (if isC t (cf L.ct)=true then BL else cf L.ct)=List.replicate L.cl BL:=by
   rcases hc with e|e
   .rw[e];rfl
   .rw[e,lu (by simp[isC,cf])]
  rw[hcl,oF]
  show _=L.r::(List.replicate 0 _++List.replicate (L.n-1-0) BL)
  rw[show L.cl+(L.n-1-L.cl)=L.n-1-0 by omega]
  rfl
 show (⟨(L.r::L.rest).map _,L.M.loads,[],0⟩:Mo)=_
 rw[hr]
 rfl
theorem Ok.give_ok {L:Lf} (h:L.Ok):L.give.Ok:=⟨h.n5,lK _,h.s0,h.b0,h.st,h.nd⟩
def take (L:Lf) (t:Int) (w:Bool):Lf:={L with la:=Lt.takeL L.la t w}
def drop (L:Lf) (t:Int):Lf:={L with la:=(Lt.dropL L.la t).2}
theorem Ok.la {L:Lf} (h:L.Ok) (m:Lt.La):({L with la:=m}:Lf).Ok:=⟨h.n5,h.c2,h.s0,h.b0,h.st,h.nd⟩
def leave (L:Lf) (t:Int):Lf:=(L.drop t).unpin
def mayH (L:Lf) (t:Int):Bool:=!decide (t∈L.la.q.map Prod.fst)&&L.M.may t
end Lf
structure LH (x:HQ) (L:Lf) (B:Nat):Prop where
 ok:x.Ok B
 m:x.q.M=L.M
 s:x.s=L.s
 l:x.lt.map LC.m=L.las
 r:x.rd=L.rds
 o:L.Ok
theorem LH.mono {L:Lf} (h:LH x L B) (hBC:B<=C) (hC:C<=60000):LH x L C:=⟨h.ok.mono hBC hC,h.m,h.s,h.l,h.r,h.o⟩
theorem LH.l0 {L:Lf} (h:LH x L B):∃l,x.lt[0]?=some l/\l.m=L.la:=by
 have hl:=h.l
 cases hx:x.lt with
 |nil=>rw[hx] at hl;cases hl
 |cons a as'=>rw[hx] at hl;exact⟨a,rfl,(List.cons.inj hl).1⟩
theorem LH.setL {L:Lf} (h:LH x L B) (l':LC) (hC:l'.m.Ok C) (hBC:B<=C) (hC6:C<=60000):LH {x with lt:=x.lt.set 0 l'} {L with la:=l'.m} C:=by
 obtain⟨l,h0,h1⟩:=h.l0
 refine⟨⟨h.ok.q.mono hBC hC6,h.ok.s,λz hz=>?_,by show (x.lt.set 0 l').length=_;rw[nU];exact h.ok.ll,h.ok.rn⟩,h.m,h.s,?_,h.r,h.o.la _⟩
 .rcases oV hz with e|e
  .exact (h.ok.l z e).mono hBC
  .rw[e];exact hC
 .show (x.lt.set 0 l').map LC.m=_
  have hl:=h.l
  cases hx:x.lt with
  |nil=>rw[hx] at h0;cases h0
  |cons a as'=>rw[hx] at hl;exact congrArg (l'.m::·) (List.cons.inj hl).2
theorem LH.setq {L L':Lf} {q:Q} (h:LH x L B) (hq:(x.setq q).Ok C) (hm:q.M=L'.M) (hs:L'.s=L.s) (hl:L'.las=L.las) (hr:L'.rt=L.rt) (ho:L'.Ok):LH (x.setq q) L' C:=⟨hq,hm,by rw[hs];exact h.s,by rw[hl];exact h.l,by show x.rd=_;rw[h.r];unfold Lf.rds;rw[hr],ho⟩
def lfe (L:Lf):List En:=L.r.nd.es
inductive Ph where
 |idle
 |rd (a:Nat)
 |wr (a:Nat)
 |rm (a:Nat)
deriving DecidableEq
structure Cl where
 ops:List Opn
 nx:Nat
 ph:Ph
def Cl.op (c:Cl):Opn:=c.ops.getD c.nx ⟨0,⟨#[]⟩,⟨#[]⟩,0,by decide,by decide⟩
def Cl.ended (c:Cl):Bool:=decide (c.ph=.idle)&&decide (c.nx=c.ops.length)
def evB (t:Int) (c:Cl):Evt:=⟨t,c.nx,false,BC⟩
def evD (t:Int) (c:Cl) (a:Ans):Evt:=⟨t,c.nx,true,a⟩
def Cl.done (c:Cl):Cl:={c with nx:=c.nx+1,ph:=.idle}
def kE (t:Int) (L:Lf) (c:Cl):Lf×Cl×Bool×List Evt:=match c.ph with
 |.idle=>if BH c.op=true then (L,c.done,false,[evB t c,evD t c ⟨2,false,kv0 16⟩]) else (L,{c with ph:=if c.op.kind=4 then .rd 1 else .wr 0},false,[evB t c])
 |.rd 1=>((L.pin t).2,{c with ph:=.rd (if (L.pin t).1=3 then 2 else 3)},false,[])
 |.rd 2=>(L.fill,{c with ph:=.rd 3},false,[])
 |.rd 3=>(L.take t false,{c with ph:=.rd 5},false,[])
 |.rd _=>(L.leave t,c.done,false,[evD t c ⟨0,(AN (lfe L) (kOf c.op)).2,(AN (lfe L) (kOf c.op)).1⟩])
 |.wr 0=>((L.pin t).2,{c with ph:=.wr (if (L.pin t).1=3 then 1 else 2)},false,[])
 |.wr 1=>(L.fill,{c with ph:=.wr 2},false,[])
 |.wr 2=>(L.take t true,{c with ph:=.wr 3},false,[])
 |.wr _=>if Cv (lfd (Bs (lfe L) (mOf c.op)))=true then ((L.setN (Bs (lfe L) (mOf c.op))).leave t,c.done,true,[evD t c BC]) else (L,{c with ph:=.rm 1},false,[])
 |.rm 1=>(L,{c with ph:=.rm 6},false,[])
 |.rm 6=>(L.claim t,{c with ph:=.rm 7},false,[])
 |.rm 7=>(L.claim t,{c with ph:=.rm 10},false,[])
 |.rm _=>(L.give.leave t,c.done,false,[evD t c ⟨3,false,kv0 16⟩])
def preC (t:Int) (L:Lf) (c:Cl):Prop:=match c.ph with
 |.idle=>c.nx<c.ops.length/\c.op.key.size<=9223372036854775807/\(c.op.kind=1\/c.op.kind=2\/c.op.kind=3\/c.op.kind=4)
 |.rd 1=>True
 |.rd 2=>L.rt=some t/\L.r.st=1
 |.rd 3=>L.r.st=2
 |.rd 5=>L.r.st=2/\De L.la t=true
 |.rd _=>False
 |.wr 0=>True
 |.wr 1=>L.rt=some t/\L.r.st=1
 |.wr 2=>L.r.st=2
 |.wr 3=>L.r.st=2/\L.la.wr=t/\kck (mOf c.op).key=true
 |.wr _=>False
 |.rm 1=>L.r.st=2/\2<=L.r.nd.es.length
 |.rm 6=>L.r.st=2/\(L.cl=0\/L.ct=t)/\L.cl<=1
 |.rm 7=>L.r.st=2/\(L.cl=0\/L.ct=t)/\L.cl<=1
 |.rm 10=>L.r.st=2/\L.cl=2/\L.ct=t/\De L.la t=true
 |.rm _=>False
theorem may_ld {L:Lf} (h:L.mayH t):t∉L.ld:=by
 unfold Lf.mayH at h
 rw[Lf.may_iff] at h
 simp only[mz,nr,m5] at h
 exact h.2.2
theorem op_at {c:Cl} (h:c.nx<c.ops.length):c.ops[c.nx]?=some c.op:=by
 unfold Cl.op
 rw[om,kY h];rfl
structure HM where
 L:Lf
 cs:List Cl
 nf:Nat
 sq:Int
 pk:Nat
 ev:List Evt
 T:Sc.Tab
def mayC (t:Int) (L:Lf) (c:Cl):Bool:=match c.ph with
 |.idle=>!decide (c.nx=c.ops.length)
 |_=>L.mayH t
def mayI (m:HM) (i:Nat):Bool:=match m.cs[i]? with
 |some c=>mayC (i:Int) m.L c
 |none=>false
def stI (m:HM) (i:Nat):Int:=if mayI m i=true then 0 else match m.cs[i]? with
 |some c=>if c.ended=true then 2 else 1
 |none=>1
def kC (m:HM):Nat->Sc.Tab->Sc.Tab
 |0,T=>T
 |k+1,T=>Sc.kJ (kC m k T) (k:Int) (stI m k)
theorem tellT_n (m:HM):∀(k:Nat) (T:Sc.Tab),(kC m k T).n=T.n
 |0,T=>rfl
 |k+1,T=>by show (Sc.kJ _ _ _).n=_;rw[Sc.turn_n,tellT_n m k T]
theorem tellT_ok (m:HM) {c:Int}:∀(k:Nat) {T:Sc.Tab},T.Ok c->(kC m k T).Ok c
 |0,T,h=>h
 |k+1,T,h=>Sc.turn_ok (tellT_ok m k h) _ _
abbrev HM.setT (m:HM) (T:Sc.Tab):HM:={m with T:=T}
def HM.client (m:HM) (t:Nat):HM:=match m.cs[t]? with
 |some c=>{m with L:=(kE (t:Int) m.L c).1,cs:=m.cs.set t (kE (t:Int) m.L c).2.1,sq:=Jb (kE (t:Int) m.L c).2.2.1 m.sq,ev:=m.ev++(kE (t:Int) m.L c).2.2.2}
 |none=>m
def kF (m:HM) (p:Int):HM :=
 if Sc.kG m.T=[] then m
 else (({m with T:=Sc.kD m.T p,pk:=m.pk+1}:HM).client (Sc.whoM m.T p)).setT (kC (({m with T:=Sc.kD m.T p,pk:=m.pk+1}:HM).client (Sc.whoM m.T p)) m.T.n (Sc.kD m.T p))
def HM.Pre (m:HM):Prop:=∀t∈Sc.kG m.T,∃c,m.cs[t]?=some c/\preC (t:Int) m.L c/\(c.ph≠.idle->m.L.mayH (t:Int)=true)
theorem stepC_ops (t:Int) (L:Lf) (c:Cl):(kE t L c).2.1.ops=c.ops:=by
 unfold kE
 split<;>(try split)<;>rfl
theorem stepC_nx {L:Lf} {c:Cl} (hp:preC t L c) (hn:c.ph≠.idle->c.nx<c.ops.length):(kE t L c).2.1.nx<=c.ops.length/\((kE t L c).2.1.ph≠.idle->(kE t L c).2.1.nx<c.ops.length):=by
 have h1:c.nx<c.ops.length:=by
  by_cases e:c.ph=.idle
  .unfold preC at hp;rw[e] at hp;exact hp.1
  .exact hn e
 unfold kE
 split<;>(try split)<;>first|exact⟨Nat.le_of_lt h1,λ_=>h1⟩|exact⟨h1,λh=>absurd rfl h⟩
theorem client_T (m:HM) (t:Nat):(m.client t).T=m.T:=by unfold HM.client;split<;>rfl
theorem stepH_eq {m:HM} (hr:Sc.kG m.T≠[]) {cl:Cl} (hcl:m.cs[Sc.whoM m.T p]?=some cl):kF m p=(({m with T:=Sc.kD m.T p,pk:=m.pk+1}:HM).client (Sc.whoM m.T p)).setT (kC (({m with T:=Sc.kD m.T p,pk:=m.pk+1}:HM).client (Sc.whoM m.T p)) (({m with T:=Sc.kD m.T p,pk:=m.pk+1}:HM).client (Sc.whoM m.T p)).T.n (({m with T:=Sc.kD m.T p,pk:=m.pk+1}:HM).client (Sc.whoM m.T p)).T):=by
 unfold kF
 rw[lz hr,client_T]
 show _=HM.setT _ (kC _ (Sc.kD m.T p).n _)
 rw[Sc.pick_n]
def GI (p:Ph):Prop:=p=.rd 5\/p=.wr 3\/∃a,p=.rm a
def CI (t:Int) (L:Lf) (c:Cl):Prop:=match c.ph with
 |.idle=>True
 |.rd 1=>True
 |.rd 2=>L.rt=some t/\L.r.st=1
 |.rd 3=>L.r.st=2\/(L.r.st=1/\t∈L.ld)
 |.rd 5=>L.r.st=2/\((t,false)∈L.la.q\/t∈L.la.rd)
 |.rd _=>False
 |.wr 0=>True
 |.wr 1=>L.rt=some t/\L.r.st=1
 |.wr 2=>L.r.st=2\/(L.r.st=1/\t∈L.ld)
 |.wr 3=>L.r.st=2/\((t,true)∈L.la.q\/L.la.wr=t)
 |.wr _=>False
 |.rm 1=>L.r.st=2/\L.la.wr=t/\9<=L.r.nd.es.length/\L.cl=0
 |.rm 6=>L.r.st=2/\L.la.wr=t/\9<=L.r.nd.es.length/\L.cl=0
 |.rm 7=>L.r.st=2/\L.la.wr=t/\9<=L.r.nd.es.length/\L.cl=1/\L.ct=t
 |.rm 10=>L.r.st=2/\L.la.wr=t/\9<=L.r.nd.es.length/\L.cl=2/\L.ct=t
 |.rm _=>False
structure Pres (u:Int) (L L':Lf):Prop where
 s2:L.r.st=2->L'.r.st=2
 s1:L.r.st=1->(L'.r.st=1/\(u∈L.ld->u∈L'.ld)/\L'.rt=L.rt)\/(L'.r.st=2/\L.rt≠some u)
 q:∀b,(u,b)∈L.la.q->(u,b)∈L'.la.q\/(if b=true then L'.la.wr=u else u∈L'.la.rd)
 rd:u∈L.la.rd->u∈L'.la.rd
 wr:L.la.wr=u->L'.la.wr=u
 w:L.la.wr=u->L.r.st=2->L'.cl=L.cl/\L'.ct=L.ct/\L'.r.nd=L.r.nd
 s:L'.s=L.s
theorem CI.keep {L L':Lf} {c:Cl} (p:Pres u L L') (h:CI u L c):CI u L' c:=by
 unfold CI at h ⊢
 split
 .trivial
 .trivial
 .rename_i e;rw[e] at h
  rcases p.s1 h.2 with⟨h1,_,h3⟩|⟨_,h2⟩
  .exact⟨by rw[h3];exact h.1,h1⟩
  .exact absurd h.1 h2
 .rename_i e;rw[e] at h
  rcases h with h|⟨h,hl⟩
  .exact .inl (p.s2 h)
  .rcases p.s1 h with⟨h1,h2,_⟩|⟨h2,_⟩
   .exact .inr ⟨h1,h2 hl⟩
   .exact .inl h2
 .rename_i e;rw[e] at h
  refine⟨p.s2 h.1,?_⟩
  rcases h.2 with h2|h2
  .exact p.q false h2
  .exact .inr (p.rd h2)
 .rename_i e1 e2 e3 e4 e;rw[e] at h
  split at h<;>simp_all
 .trivial
 .rename_i e;rw[e] at h
  rcases p.s1 h.2 with⟨h1,_,h3⟩|⟨_,h2⟩
  .exact⟨by rw[h3];exact h.1,h1⟩
  .exact absurd h.1 h2
 .rename_i e;rw[e] at h
  rcases h with h|⟨h,hl⟩
  .exact .inl (p.s2 h)
  .rcases p.s1 h with⟨h1,h2,_⟩|⟨h2,_⟩
   .exact .inr ⟨h1,h2 hl⟩
   .exact .inl h2
 .rename_i e;rw[e] at h
  refine⟨p.s2 h.1,?_⟩
  rcases h.2 with h2|h2
  .exact p.q true h2
  .exact .inr (p.wr h2)
 .rename_i e1 e2 e3 e4 e;rw[e] at h
  split at h<;>simp_all
 .rename_i e;rw[e] at h
  obtain⟨h1,h2,h3⟩:=p.w h.2.1 h.1
  exact⟨p.s2 h.1,p.wr h.2.1,by rw[h3];exact h.2.2.1,by rw[h1];exact h.2.2.2⟩
 .rename_i e;rw[e] at h
  obtain⟨h1,h2,h3⟩:=p.w h.2.1 h.1
  exact⟨p.s2 h.1,p.wr h.2.1,by rw[h3];exact h.2.2.1,by rw[h1];exact h.2.2.2⟩
 .rename_i e;rw[e] at h
  obtain⟨h1,h2,h3⟩:=p.w h.2.1 h.1
  exact⟨p.s2 h.1,p.wr h.2.1,by rw[h3];exact h.2.2.1,by rw[h1];exact h.2.2.2.1,by rw[h2];exact h.2.2.2.2⟩
 .rename_i e;rw[e] at h
  obtain⟨h1,h2,h3⟩:=p.w h.2.1 h.1
  exact⟨p.s2 h.1,p.wr h.2.1,by rw[h3];exact h.2.2.1,by rw[h1];exact h.2.2.2.1,by rw[h2];exact h.2.2.2.2⟩
 .rename_i e1 e2 e3 e4 e;rw[e] at h
  split at h<;>simp_all
def ei (c:Cl):Prop:=∀o∈c.ops,o.key.size<=9223372036854775807/\(o.kind=1\/o.kind=2\/o.kind=3\/o.kind=4)
structure Inv0 (m:HM):Prop where
 ops:∀c∈m.cs,ei c/\c.nx<=c.ops.length/\(c.ph≠.idle->c.nx<c.ops.length)
 lok:m.L.Ok
 la:∃n,m.L.la.Ok n
 sb:Lt.Stable m.L.la
 n8:m.cs.length<=8
 ci:∀(t:Nat) (c:Cl),m.cs[t]?=some c->CI (t:Int) m.L c
 ld0:m.L.r.st≠1->m.L.ld=[]
 ldc:∀u∈m.L.ld,∃(t:Nat) (c:Cl),u=(t:Int)/\m.cs[t]?=some c/\(c.ph=.rd 3\/c.ph=.wr 2)
 ldr:m.L.r.st=1->∃(t:Nat) (c:Cl),m.cs[t]?=some c/\(c.ph=.rd 2\/c.ph=.wr 1)
 tk:∀u∈Lt.tasks m.L.la,∃(t:Nat) (c:Cl),u=(t:Int)/\m.cs[t]?=some c/\GI c.ph
 cl0:(∀(t:Nat) (c:Cl),m.cs[t]?=some c->∀a,c.ph≠.rm a)->m.L.cl=0
theorem CI.hold {L:Lf} {c:Cl} (h:CI t L c) (hh:GI c.ph):L.r.st=2:=by
 unfold CI at h
 rcases hh with e|e|⟨a,e⟩
 .rw[e] at h;exact h.1
 .rw[e] at h;exact h.1
 .rw[e] at h
  split at h<;>first|exact h.1|(exact h.elim)|simp_all
theorem Inv0.hold2 {m:HM} (h:Inv0 m) {u:Int} (hu:u∈Lt.tasks m.L.la):m.L.r.st=2:=by
 obtain⟨t,c,_,hc,hp⟩:=h.tk u hu
 exact (h.ci t c hc).hold hp
theorem Yl {m:Lt.La} (hu:0<=u) (h:m.wr=u):u∈Lt.tasks m:=by
 unfold Lt.tasks
 rw[h,lu hu];simp
theorem Inv0.mk' {m:HM} (h:Inv0 m) {t:Nat} {c:Cl} (hc:m.cs[t]?=some c) {L':Lf} {c':Cl} {b:Bool} {evs:List Evt} (e:kE (t:Int) m.L c=(L',c',b,evs)) (hpre:preC (t:Int) m.L c)
 (hP:∀u:Int,u≠(t:Int)->0<=u->Pres u m.L L') (hL:L'.Ok) (hla:∃n,L'.la.Ok n) (hsb:Lt.Stable L'.la) (hci:CI (t:Int) L' c') (hld0:L'.r.st≠1->L'.ld=[])
 (hldc:∀u∈L'.ld,(u=(t:Int)/\(c'.ph=.rd 3\/c'.ph=.wr 2))\/(u∈m.L.ld/\u≠(t:Int)))
 (hldr:L'.r.st=1->(c'.ph=.rd 2\/c'.ph=.wr 1)\/(m.L.r.st=1/\c.ph≠.rd 2/\c.ph≠.wr 1))
 (htk:∀u∈Lt.tasks L'.la,(u=(t:Int)/\GI c'.ph)\/(u∈Lt.tasks m.L.la/\u≠(t:Int)))
 (hcl0:L'.cl=0\/(∃a,c'.ph=.rm a)\/(L'.cl=m.L.cl/\∀a,c.ph≠.rm a)):Inv0 (m.client t):=by
 have hm:m.client t={m with L:=L',cs:=m.cs.set t c',sq:=Jb b m.sq,ev:=m.ev++evs}:=by unfold HM.client;rw[hc];dsimp only;rw[e]
 have hlt:=(lR.1 hc).1
 have hself:(m.cs.set t c')[t]?=some c':=oU hlt
 have hoth:∀u,u≠t->(m.cs.set t c')[u]?=m.cs[u]?:=λu hu=>po (nj hu)
 have hop:=h.ops c (mQ hc)
 have ho':c'.ops=c.ops:=by have:=stepC_ops (t:Int) m.L c;rw[e] at this;exact this
 have hn':=stepC_nx hpre hop.2.2
 rw[e] at hn'
 rw[hm]
 refine⟨λd hd=>?_,hL,hla,hsb,by show (m.cs.set t c').length<=8;rw[nU];exact h.n8,λu d hd=>?_,hld0,λu hu=>?_,λh1=>?_,λu hu=>?_,λhno=>?_⟩
 .rcases oV hd with e1|e1
  .exact h.ops d e1
  .subst e1
   exact⟨by unfold ei;rw[ho'];exact hop.1,by rw[ho'];exact hn'.1,by rw[ho'];exact hn'.2⟩
 .by_cases e1:u=t
  .subst e1
   have:(m.cs.set u c')[u]?=some d:=hd
   rw[hself] at this;cases this;exact hci
  .have:(m.cs.set t c')[u]?=some d:=hd
   rw[hoth u e1] at this
   exact (h.ci u d this).keep (hP _ (by omega) (by omega))
 .rcases hldc u hu with⟨rfl,h2⟩|⟨h2,h3⟩
  .exact⟨t,c',rfl,hself,h2⟩
  .obtain⟨v,d,rfl,hd,hp⟩:=h.ldc u h2
   exact⟨v,d,rfl,by show (m.cs.set t c')[v]?=_;rw[hoth v (by omega)];exact hd,hp⟩
 .rcases hldr h1 with h2|⟨h2,h3,h4⟩
  .exact⟨t,c',hself,h2⟩
  .obtain⟨v,d,hd,hp⟩:=h.ldr h2
   have hv:v≠t:=λe1=>by
    subst e1;rw[hc] at hd;cases hd
    rcases hp with hp|hp
    .exact h3 hp
    .exact h4 hp
   exact⟨v,d,by show (m.cs.set t c')[v]?=_;rw[hoth v hv];exact hd,hp⟩
 .rcases htk u hu with⟨rfl,h2⟩|⟨h2,h3⟩
  .exact⟨t,c',rfl,hself,h2⟩
  .obtain⟨v,d,rfl,hd,hp⟩:=h.tk u h2
   exact⟨v,d,rfl,by show (m.cs.set t c')[v]?=_;rw[hoth v (by omega)];exact hd,hp⟩
 .show L'.cl=0
  rcases hcl0 with h2|⟨a,h2⟩|⟨h2,h3⟩
  .exact h2
  .exact absurd h2 (hno t c' hself a)
  .rw[h2]
   refine h.cl0 (λv d hd a=>?_)
   by_cases e1:v=t
   .subst e1;rw[hc] at hd;cases hd;exact h3 a
   .exact hno v d (by show (m.cs.set t c')[v]?=_;rw[hoth v e1];exact hd) a
theorem Pres.refl (u:Int) (L:Lf):Pres u L L:=⟨id,λh=>.inl ⟨h,id,rfl⟩,λ_ h=>.inl h,id,id,λ_ _=>⟨rfl,rfl,rfl⟩,rfl⟩
theorem Inv0.nh {m:HM} (h:Inv0 m) {t:Nat} {c:Cl} (hc:m.cs[t]?=some c) (hn:¬GI c.ph):∀u∈Lt.tasks m.L.la,u≠(t:Int):=λu hu e=>by
 obtain⟨v,d,h1,h2,h3⟩:=h.tk u hu
 have:v=t:=by omega
 subst this;rw[hc] at h2;cases h2;exact hn h3
theorem Inv0.nl {m:HM} (h:Inv0 m) {t:Nat} {c:Cl} (hc:m.cs[t]?=some c) (h1:c.ph≠.rd 3) (h2:c.ph≠.wr 2):∀u∈m.L.ld,u≠(t:Int):=λu hu e=>by
 obtain⟨v,d,e1,e2,e3⟩:=h.ldc u hu
 have:v=t:=by omega
 subst this;rw[hc] at e2;cases e2
 rcases e3 with e3|e3
 .exact h1 e3
 .exact h2 e3
theorem Lf.Ok.st3 {L:Lf} (h:L.Ok):L.r.st=0\/L.r.st=1\/L.r.st=2:=by
 rcases h.st with e|e|e
 .left;rw[e];rfl
 .exact .inr (.inl e.1)
 .exact .inr (.inr e.1)
theorem Ym (u:Int) (L:Lf) (t:Int):Pres u L (L.pin t).2:=by
 unfold Lf.pin
 split
 .rename_i h0
  exact⟨λh=>by omega,λh=>by omega,λ_ h=>.inl h,id,id,λ_ h=>by omega,rfl⟩
 .split
  .rename_i h0 h2
   exact⟨id,λh=>by omega,λ_ h=>.inl h,id,id,λ_ _=>⟨rfl,rfl,rfl⟩,rfl⟩
  .exact⟨id,λh=>.inl ⟨h,λh=>lO _ h,rfl⟩,λ_ h=>.inl h,id,id,λ_ _=>⟨rfl,rfl,rfl⟩,rfl⟩
theorem Inv0.pin {m:HM} (h:Inv0 m) {t:Nat} {c:Cl} (hc:m.cs[t]?=some c) (hpre:preC (t:Int) m.L c) {c':Cl} (e:kE (t:Int) m.L c=((m.L.pin t).2,c',false,[])) (hph:c.ph=.rd 1/\c'.ph=.rd (if (m.L.pin t).1=3 then 2 else 3)\/c.ph=.wr 0/\c'.ph=.wr (if (m.L.pin t).1=3 then 1 else 2)):Inv0 (m.client t):=by
 have hnh:¬GI c.ph:=by
  rintro (h1|h1|⟨a,h1⟩)<;>rcases hph with⟨h2,_⟩|⟨h2,_⟩<;>rw[h2] at h1<;>cases h1
 have h3:c.ph≠.rd 3:=by rcases hph with⟨h2,_⟩|⟨h2,_⟩<;>rw[h2]<;>simp
 have h4:c.ph≠.wr 2:=by rcases hph with⟨h2,_⟩|⟨h2,_⟩<;>rw[h2]<;>simp
 have h5:c.ph≠.rd 2/\c.ph≠.wr 1:=by rcases hph with⟨h2,_⟩|⟨h2,_⟩<;>rw[h2]<;>simp
 have h6:∀a,c.ph≠.rm a:=by intro a;rcases hph with⟨h2,_⟩|⟨h2,_⟩<;>rw[h2]<;>simp
 have hla:(m.L.pin (t:Int)).2.la=m.L.la:=by unfold Lf.pin;split<;>(try split)<;>rfl
 have hcl:(m.L.pin (t:Int)).2.cl=m.L.cl:=by unfold Lf.pin;split<;>(try split)<;>rfl
 refine h.mk' hc e hpre (λu _ _=>Ym u m.L t) (h.lok.pin_ok t) (by rw[hla];exact h.la) (by rw[hla];exact h.sb) ?_ ?_ ?_ ?_ (λu hu=>.inr ⟨by rw[hla] at hu;exact hu,h.nh hc hnh u (by rw[hla] at hu;exact hu)⟩) (.inr (.inr ⟨hcl,h6⟩))
 .rcases h.lok.st3 with h0|h0|h0
  .have hp:m.L.pin (t:Int)=(3,{m.L with r:=⟨1,0,0,1,true,false,nd0⟩,rt:=some (t:Int)}):=by unfold Lf.pin;rw[lu h0]
   rw[hp] at hph ⊢
   rcases hph with⟨_,h2⟩|⟨_,h2⟩<;>(unfold CI;rw[h2];exact⟨rfl,rfl⟩)
  .have hp:m.L.pin (t:Int)=(2,{m.L with r:={m.L.r with pins:=m.L.r.pins+1,ref:=true},ld:=m.L.ld++[(t:Int)]}):=by unfold Lf.pin;rw[lz (by omega),lz (by omega)]
   rw[hp] at hph ⊢
   rcases hph with⟨_,h2⟩|⟨_,h2⟩<;>(unfold CI;rw[h2];exact .inr ⟨h0,nK _ (by simp)⟩)
  .have hp:m.L.pin (t:Int)=(1,{m.L with r:={m.L.r with pins:=m.L.r.pins+1,ref:=true}}):=by unfold Lf.pin;rw[lz (by omega),lu h0]
   rw[hp] at hph ⊢
   rcases hph with⟨_,h2⟩|⟨_,h2⟩<;>(unfold CI;rw[h2];exact .inl h0)
 .intro hs
  rcases h.lok.st3 with h0|h0|h0
  .exact absurd (by unfold Lf.pin;rw[lu h0]) hs
  .exact absurd (by unfold Lf.pin;rw[lz (by omega),lz (by omega)];exact h0) hs
  .have hp:m.L.pin (t:Int)=(1,{m.L with r:={m.L.r with pins:=m.L.r.pins+1,ref:=true}}):=by unfold Lf.pin;rw[lz (by omega),lu h0]
   rw[hp];exact h.ld0 (by omega)
 .intro u hu
  rcases h.lok.st3 with h0|h0|h0
  .have hp:m.L.pin (t:Int)=(3,{m.L with r:=⟨1,0,0,1,true,false,nd0⟩,rt:=some (t:Int)}):=by unfold Lf.pin;rw[lu h0]
   rw[hp] at hu;exact .inr ⟨hu,h.nl hc h3 h4 u hu⟩
  .have hp:m.L.pin (t:Int)=(2,{m.L with r:={m.L.r with pins:=m.L.r.pins+1,ref:=true},ld:=m.L.ld++[(t:Int)]}):=by unfold Lf.pin;rw[lz (by omega),lz (by omega)]
   rw[hp] at hu hph
   rcases mT.1 (show u∈m.L.ld++[(t:Int)] from hu) with hu|hu
   .exact .inr ⟨hu,h.nl hc h3 h4 u hu⟩
   .simp at hu
    exact .inl ⟨hu,by rcases hph with⟨_,h2⟩|⟨_,h2⟩<;>rw[h2]<;>simp⟩
  .have hp:m.L.pin (t:Int)=(1,{m.L with r:={m.L.r with pins:=m.L.r.pins+1,ref:=true}}):=by unfold Lf.pin;rw[lz (by omega),lu h0]
   rw[hp] at hu;exact .inr ⟨hu,h.nl hc h3 h4 u hu⟩
 .intro hs
  rcases h.lok.st3 with h0|h0|h0
  .have hp:m.L.pin (t:Int)=(3,{m.L with r:=⟨1,0,0,1,true,false,nd0⟩,rt:=some (t:Int)}):=by unfold Lf.pin;rw[lu h0]
   rw[hp] at hph
   exact .inl (by rcases hph with⟨_,h2⟩|⟨_,h2⟩<;>rw[h2]<;>simp)
  .exact .inr ⟨h0,h5⟩
  .exact absurd hs (by unfold Lf.pin;rw[lz (by omega),lu h0];show ¬m.L.r.st=1;omega)
theorem Inv0.fill {m:HM} (h:Inv0 m) {t:Nat} {c:Cl} (hc:m.cs[t]?=some c) (hpre:preC (t:Int) m.L c) {c':Cl} (e:kE (t:Int) m.L c=(m.L.fill,c',false,[])) (hr:m.L.rt=some (t:Int)) (h1:m.L.r.st=1) (hph:c.ph=.rd 2/\c'.ph=.rd 3\/c.ph=.wr 1/\c'.ph=.wr 2):Inv0 (m.client t):=by
 have hno:∀u,u∉Lt.tasks m.L.la:=λu hu=>by have:=h.hold2 hu;omega
 have h6:∀a,c.ph≠.rm a:=by intro a;rcases hph with⟨h2,_⟩|⟨h2,_⟩<;>rw[h2]<;>simp
 refine h.mk' hc e hpre (λu hu h0=>⟨λ_=>rfl,λ_=>.inr ⟨rfl,by rw[hr];simpa using hu.symm⟩,λ_ h=>.inl h,id,id,λhw _=>absurd (Yl h0 hw) (hno u),rfl⟩) (h.lok.fill_ok h1) h.la h.sb ?_ (λ_=>rfl) (λu hu=>by cases hu) (λhs=>by cases hs) (λu hu=>absurd hu (hno u)) (.inr (.inr ⟨rfl,h6⟩))
 rcases hph with⟨_,h2⟩|⟨_,h2⟩<;>(unfold CI;rw[h2];exact .inl rfl)
theorem Inv0.take {m:HM} (h:Inv0 m) {t:Nat} {c:Cl} (hc:m.cs[t]?=some c) (hpre:preC (t:Int) m.L c) {c':Cl} {w:Bool} (e:kE (t:Int) m.L c=(m.L.take t w,c',false,[])) (h2:m.L.r.st=2) (hph:c.ph=.rd 3/\c'.ph=.rd 5/\w=false\/c.ph=.wr 2/\c'.ph=.wr 3/\w=true):Inv0 (m.client t):=by
 obtain⟨n,hn⟩:=h.la
 have hnh:¬GI c.ph:=by
  rintro (h1|h1|⟨a,h1⟩)<;>rcases hph with⟨h2,_⟩|⟨h2,_⟩<;>rw[h2] at h1<;>cases h1
 have h6:∀a,c.ph≠.rm a:=by intro a;rcases hph with⟨h2,_⟩|⟨h2,_⟩<;>rw[h2]<;>simp
 have hself:=Lt.take_self (m:=m.L.la) (t:=(t:Int)) (by omega) (λhu=>h.nh hc hnh _ hu rfl) hn.toOk0 w
 refine h.mk' hc e hpre (λu hu h0=>⟨id,λh=>by omega,λb hb=>.inl (Lt.take_q hb),Lt.take_rd,Lt.take_wr (by omega),λ_ _=>⟨rfl,rfl,rfl⟩,rfl⟩) (h.lok.la _) ⟨n+1,Lt.take_ok hn t w⟩ (Lt.take_stable h.sb t w) ?_ (λhs=>h.ld0 (by omega)) (λu hu=>by rw[show (m.L.take (t:Int) w).ld=m.L.ld from rfl,h.ld0 (by omega)] at hu;cases hu) (λhs=>by have:m.L.r.st=1:=hs;omega) (λu hu=>?_) (.inr (.inr ⟨rfl,h6⟩))
 .rcases hph with⟨_,h3,rfl⟩|⟨_,h3,rfl⟩
  .unfold CI;rw[h3];exact⟨h2,hself⟩
  .unfold CI;rw[h3];exact⟨h2,hself⟩
 .rcases Lt.take_tasks (by omega) hu with h3|h3
  .exact .inl ⟨h3,by rcases hph with⟨_,h3,_⟩|⟨_,h3,_⟩<;>rw[h3]<;>simp[GI]⟩
  .exact .inr ⟨h3,h.nh hc hnh u h3⟩
theorem Inv0.leave {m:HM} (h:Inv0 m) {t:Nat} {c:Cl} (hc:m.cs[t]?=some c) (hpre:preC (t:Int) m.L c) {b:Bool} {evs:List Evt} {L1:Lf} (e:kE (t:Int) m.L c=(L1.leave t,c.done,b,evs)) (h2:m.L.r.st=2) (hh:GI c.ph) (hL:L1.Ok) (hs1:L1.r.st=2) (hla:L1.la=m.L.la) (hld:L1.ld=m.L.ld) (hs:L1.s=m.L.s) (hw:∀u:Int,u≠(t:Int)->m.L.la.wr=u->0<=u->L1.cl=m.L.cl/\L1.ct=m.L.ct/\L1.r.nd=m.L.r.nd) (hcl:L1.cl=0\/(L1.cl=m.L.cl/\∀a,c.ph≠.rm a)):Inv0 (m.client t):=by
 obtain⟨n,hn⟩:=h.la
 have hun:∀L:Lf,L.unpin.la=L.la/\L.unpin.ld=L.ld/\L.unpin.s=L.s/\L.unpin.cl=L.cl/\L.unpin.ct=L.ct/\L.unpin.r.nd=L.r.nd/\L.unpin.r.st=L.r.st:=λL=>by
  unfold Lf.unpin;split<;>exact⟨rfl,rfl,rfl,rfl,rfl,rfl,rfl⟩
 obtain⟨a1,a2,a3,a4,a5,a6,a7⟩:=hun (L1.drop (t:Int))
 have l1:(L1.leave (t:Int)).la=(Lt.dropL m.L.la t).2:=by show (L1.drop (t:Int)).unpin.la=_;rw[a1,<-hla];rfl
 have l2:(L1.leave (t:Int)).ld=m.L.ld:=by show (L1.drop (t:Int)).unpin.ld=_;rw[a2,<-hld];rfl
 have l3:(L1.leave (t:Int)).r.st=2:=by show (L1.drop (t:Int)).unpin.r.st=_;rw[a7];exact hs1
 have l4:(L1.leave (t:Int)).cl=L1.cl:=by show (L1.drop (t:Int)).unpin.cl=_;rw[a4];rfl
 refine h.mk' hc e hpre (λu hu h0=>⟨λ_=>l3,λh=>by omega,λb hb=>by rw[l1];exact Lt.drop_q (by omega) (by omega) hu hb,λhb=>by rw[l1];exact Lt.drop_rd (by omega) hu hb,λhb=>by rw[l1];exact Lt.drop_wr (by omega) (by omega) hu hb,λhb _=>?_,?_⟩) (Lf.Ok.unpin_ok (hL.la _)) (by rw[l1];exact⟨n,Lt.drop_ok hn t⟩) (by rw[l1];exact Lt.drop_stable (by omega)) trivial (λ_=>by rw[l2];exact h.ld0 (by omega)) (λu hu=>by rw[l2,h.ld0 (by omega)] at hu;cases hu) (λhs=>by rw[l3] at hs;cases hs) (λu hu=>by rw[l1] at hu;have:=Lt.drop_tasks hn (by omega) hu;exact .inr ⟨this.2,this.1⟩) ?_
 .obtain⟨b1,b2,b3⟩:=hw u hu hb h0
  exact⟨by rw[l4,b1],by show (L1.drop (t:Int)).unpin.ct=_;rw[a5];exact b2,by show (L1.drop (t:Int)).unpin.r.nd=_;rw[a6];exact b3⟩
 .show (L1.drop (t:Int)).unpin.s=_;rw[a3];exact hs
 .rcases hcl with h3|⟨h3,h4⟩
  .exact .inl (by rw[l4];exact h3)
  .exact .inr (.inr ⟨by rw[l4];exact h3,h4⟩)
def Yn (L:Lf) (c:Cl):Prop:=c.ph=.wr 3->L.r.st=2->Cv (lfd (Bs (lfe L) (mOf c.op)))=true\/9<=L.r.nd.es.length
theorem op_mem {c:Cl} (h:c.nx<c.ops.length):c.op∈c.ops:=mQ (op_at h)
theorem may_q {L:Lf} (h:L.mayH t):∀b,(t,b)∉L.la.q:=λb hb=>by
 unfold Lf.mayH at h
 simp only[mz,nr,m5] at h
 exact h.1 (lP.2 ⟨_,hb,rfl⟩)
theorem Inv0.pre {m:HM} (h:Inv0 m) {t:Nat} {c:Cl} (hc:m.cs[t]?=some c) (hm:mayC (t:Int) m.L c):preC (t:Int) m.L c/\(c.ph≠.idle->m.L.mayH (t:Int)=true):=by
 have hop:=h.ops c (mQ hc)
 have hci:=h.ci t c hc
 have hmay:c.ph≠.idle->m.L.mayH (t:Int)=true:=λhn=>by
  unfold mayC at hm
  split at hm
  .rename_i e;exact absurd e hn
  .exact hm
 refine⟨?_,hmay⟩
 unfold CI at hci
 unfold preC
 split
 .rename_i e
  unfold mayC at hm
  rw[e] at hm
  have h1:c.nx<c.ops.length:=by
   have h2:¬c.nx=c.ops.length:=by simpa using hm
   have:=hop.2.1;omega
  exact⟨h1,hop.1 _ (op_mem h1)⟩
 .trivial
 .rename_i e;rw[e] at hci;exact hci
 .rename_i e;rw[e] at hci
  rcases hci with h1|⟨_,h1⟩
  .exact h1
  .exact absurd h1 (may_ld (hmay (by rw[e];simp)))
 .rename_i e;rw[e] at hci
  refine⟨hci.1,?_⟩
  rcases hci.2 with h1|h1
  .exact absurd h1 (may_q (hmay (by rw[e];simp)) _)
  .unfold De;rw[od h1,pz]
 .rename_i e1 e2 e3 e4 e;rw[e] at hci
  split at hci<;>simp_all
 .trivial
 .rename_i e;rw[e] at hci;exact hci
 .rename_i e;rw[e] at hci
  rcases hci with h1|⟨_,h1⟩
  .exact h1
  .exact absurd h1 (may_ld (hmay (by rw[e];simp)))
 .rename_i e;rw[e] at hci
  refine⟨hci.1,?_,EU _⟩
  rcases hci.2 with h1|h1
  .exact absurd h1 (may_q (hmay (by rw[e];simp)) _)
  .exact h1
 .rename_i e1 e2 e3 e4 e;rw[e] at hci
  split at hci<;>simp_all
 .rename_i e;rw[e] at hci;exact⟨hci.1,mf (by decide) hci.2.2.1⟩
 .rename_i e;rw[e] at hci;exact⟨hci.1,.inl hci.2.2.2,by have h9:m.L.cl=0:=hci.2.2.2;omega⟩
 .rename_i e;rw[e] at hci;exact⟨hci.1,.inr hci.2.2.2.2,by have h9:m.L.cl=1:=hci.2.2.2.1;omega⟩
 .rename_i e;rw[e] at hci;exact⟨hci.1,hci.2.2.2.1,hci.2.2.2.2,by unfold De;rw[od hci.2.1];rfl⟩
 .rename_i e1 e2 e3 e4 e;rw[e] at hci
  split at hci<;>simp_all
theorem Inv0.same {m:HM} (h:Inv0 m) {t:Nat} {c:Cl} (hc:m.cs[t]?=some c) (hpre:preC (t:Int) m.L c) {c':Cl} {b:Bool} {evs:List Evt} (e:kE (t:Int) m.L c=(m.L,c',b,evs)) (hci:CI (t:Int) m.L c') (h1:c.ph≠.rd 3) (h2:c.ph≠.wr 2) (h3:c.ph≠.rd 2/\c.ph≠.wr 1) (h4:GI c.ph->GI c'.ph) (h5:m.L.cl=0\/(∃a,c'.ph=.rm a)\/∀a,c.ph≠.rm a):Inv0 (m.client t) :=
 h.mk' hc e hpre (λu _ _=>Pres.refl u m.L) h.lok h.la h.sb hci h.ld0 (λu hu=>.inr ⟨hu,h.nl hc h1 h2 u hu⟩) (λhs=>.inr ⟨hs,h3⟩) (λu hu=>by
  by_cases hh:GI c.ph
  .by_cases e:u=(t:Int)
   .exact .inl ⟨e,h4 hh⟩
   .exact .inr ⟨hu,e⟩
  .exact .inr ⟨hu,h.nh hc hh u hu⟩) (by
  rcases h5 with h5|h5|h5
  .exact .inl h5
  .exact .inr (.inl h5)
  .exact .inr (.inr ⟨rfl,h5⟩))
theorem Inv0.claim {m:HM} (h:Inv0 m) {t:Nat} {c:Cl} (hc:m.cs[t]?=some c) (hpre:preC (t:Int) m.L c) {c':Cl} (e:kE (t:Int) m.L c=(m.L.claim t,c',false,[])) (hw:m.L.la.wr=(t:Int)) (hs:m.L.r.st=2) (h1:m.L.cl<=1) (hci:CI (t:Int) (m.L.claim t) c') (hr:∃a,c.ph=.rm a) (hr':∃a,c'.ph=.rm a):Inv0 (m.client t):=by
 obtain⟨a,hr⟩:=hr
 obtain⟨a',hr'⟩:=hr'
 refine h.mk' hc e hpre (λu hu _=>⟨id,λh=>.inl ⟨h,id,rfl⟩,λ_ h=>.inl h,id,id,λh _=>absurd (by rw[<-h,hw]) hu,rfl⟩) (h.lok.claim_ok t h1) h.la h.sb hci h.ld0 (λu hu=>.inr ⟨hu,h.nl hc (by rw[hr];simp) (by rw[hr];simp) u hu⟩) (λhs=>.inr ⟨hs,by rw[hr];simp,by rw[hr];simp⟩) (λu hu=>?_) (.inr (.inl ⟨a',hr'⟩))
 by_cases e:u=(t:Int)
 .exact .inl ⟨e,.inr (.inr ⟨a',hr'⟩)⟩
 .exact .inr ⟨hu,e⟩
theorem Inv0.client {m:HM} (h:Inv0 m) {t:Nat} {c:Cl} (hc:m.cs[t]?=some c) (hpre:preC (t:Int) m.L c) (hS:Yn m.L c):Inv0 (m.client t):=by
 have hci:=h.ci t c hc
 obtain⟨ops,nx,ph⟩:=c
 cases ph with
 |idle =>
  by_cases hT:BH (Cl.op ⟨ops,nx,.idle⟩)=true
  .have e:kE (t:Int) m.L ⟨ops,nx,.idle⟩=(m.L,⟨ops,nx+1,.idle⟩,false,[evB t ⟨ops,nx,.idle⟩,evD t ⟨ops,nx,.idle⟩ ⟨2,false,kv0 16⟩]):=by
    unfold kE;simp only;rw[lu hT];rfl
   exact h.same hc hpre e trivial (by simp) (by simp) (by simp) (by rintro (h1|h1|⟨a,h1⟩)<;>cases h1) (.inr (.inr (by simp)))
  have e:kE (t:Int) m.L ⟨ops,nx,.idle⟩=(m.L,⟨ops,nx,if (Cl.op ⟨ops,nx,.idle⟩).kind=4 then .rd 1 else .wr 0⟩,false,[evB t ⟨ops,nx,.idle⟩]):=by
   unfold kE;simp only;rw[lz hT]
  refine h.same hc hpre e ?_ (by simp) (by simp) (by simp) (by rintro (h1|h1|⟨a,h1⟩)<;>cases h1) (.inr (.inr (by simp)))
  unfold CI
  by_cases h4:(Cl.op ⟨ops,nx,.idle⟩).kind=4
  .simp only[h4,mA]
  .simp only[h4,nz]
 |rd a =>
  match a,hpre with
  |1,hp=>exact h.pin hc (c:=⟨ops,nx,.rd 1⟩) hp (c':=⟨ops,nx,.rd (if (m.L.pin t).1=3 then 2 else 3)⟩) rfl (.inl ⟨rfl,rfl⟩)
  |2,hp=>exact h.fill hc (c:=⟨ops,nx,.rd 2⟩) hp (c':=⟨ops,nx,.rd 3⟩) rfl hp.1 hp.2 (.inl ⟨rfl,rfl⟩)
  |3,hp=>exact h.take hc (c:=⟨ops,nx,.rd 3⟩) hp (c':=⟨ops,nx,.rd 5⟩) (w:=false) rfl hp (.inl ⟨rfl,rfl,rfl⟩)
  |5,hp=>exact h.leave hc (c:=⟨ops,nx,.rd 5⟩) hp (L1:=m.L) rfl hp.1 (.inl rfl) h.lok hp.1 rfl rfl rfl (λ_ _ _ _=>⟨rfl,rfl,rfl⟩) (.inr ⟨rfl,by simp⟩)
 |wr a =>
  match a,hpre with
  |0,hp=>exact h.pin hc (c:=⟨ops,nx,.wr 0⟩) hp (c':=⟨ops,nx,.wr (if (m.L.pin t).1=3 then 1 else 2)⟩) rfl (.inr ⟨rfl,rfl⟩)
  |1,hp=>exact h.fill hc (c:=⟨ops,nx,.wr 1⟩) hp (c':=⟨ops,nx,.wr 2⟩) rfl hp.1 hp.2 (.inr ⟨rfl,rfl⟩)
  |2,hp=>exact h.take hc (c:=⟨ops,nx,.wr 2⟩) hp (c':=⟨ops,nx,.wr 3⟩) (w:=true) rfl hp (.inr ⟨rfl,rfl,rfl⟩)
  |3,hp =>
   by_cases hf:Cv (lfd (Bs (lfe m.L) (mOf (Cl.op ⟨ops,nx,.wr 3⟩))))=true
   .have e:kE (t:Int) m.L ⟨ops,nx,.wr 3⟩=((m.L.setN (Bs (lfe m.L) (mOf (Cl.op ⟨ops,nx,.wr 3⟩)))).leave t,Cl.done ⟨ops,nx,.wr 3⟩,true,[evD t ⟨ops,nx,.wr 3⟩ BC]):=by
     show (if Cv (lfd (Bs (lfe m.L) (mOf (Cl.op ⟨ops,nx,.wr 3⟩))))=true then _ else _)=_
     rw[lu hf]
    exact h.leave hc hp e hp.1 (.inr (.inl I)) (h.lok.setN_ok hp.1 (WY (FP hf).1) hf) hp.1 I I I (λu hu hw _=>absurd (by rw[<-hw];exact hp.2.1) hu) (.inr ⟨rfl,by simp⟩)
   .have e:kE (t:Int) m.L ⟨ops,nx,.wr 3⟩=(m.L,⟨ops,nx,.rm 1⟩,false,[]):=by
     show (if Cv (lfd (Bs (lfe m.L) (mOf (Cl.op ⟨ops,nx,.wr 3⟩))))=true then _ else _)=_
     rw[lz hf]
    have hs:=(hS rfl hp.1).resolve_left hf
    refine h.same hc hp e ⟨hp.1,hp.2.1,hs,?_⟩ (by simp) (by simp) (by simp) (λ_=>.inr (.inr ⟨1,rfl⟩)) (.inr (.inl ⟨1,rfl⟩))
    refine h.cl0 (λv d hd a ha=>?_)
    have hv:=h.ci v d hd
    have hw:m.L.la.wr=(v:Int):=by
     unfold CI at hv;rw[ha] at hv
     split at hv<;>first|exact hv.2.1|(exact hv.elim)|simp_all
    have:v=t:=by have:=hp.2.1;omega
    subst this
    rw[hc] at hd;cases hd;cases ha
 |rm a =>
  match a,hpre with
  |1,hp=>exact h.same hc (c:=⟨ops,nx,.rm 1⟩) hp (c':=⟨ops,nx,.rm 6⟩) rfl hci (by simp) (by simp) (by simp) (λ_=>.inr (.inr ⟨6,rfl⟩)) (.inr (.inl ⟨6,rfl⟩))
  |6,hp=>exact h.claim hc (c:=⟨ops,nx,.rm 6⟩) hp (c':=⟨ops,nx,.rm 7⟩) rfl hci.2.1 hp.1 hp.2.2 ⟨hci.1,hci.2.1,hci.2.2.1,by show m.L.cl+1=1;rw[hci.2.2.2],rfl⟩ ⟨6,rfl⟩ ⟨7,rfl⟩
  |7,hp=>exact h.claim hc (c:=⟨ops,nx,.rm 7⟩) hp (c':=⟨ops,nx,.rm 10⟩) rfl hci.2.1 hp.1 hp.2.2 ⟨hci.1,hci.2.1,hci.2.2.1,by show m.L.cl+1=2;rw[hci.2.2.2.1],rfl⟩ ⟨7,rfl⟩ ⟨10,rfl⟩
  |10,hp=>exact h.leave hc (c:=⟨ops,nx,.rm 10⟩) hp (L1:=m.L.give) rfl hp.1 (.inr (.inr ⟨10,rfl⟩)) h.lok.give_ok hp.1 rfl rfl rfl (λu hu hw _=>absurd (by rw[<-hw];exact hci.2.1) hu) (.inl rfl)
structure Inv (m:HM):Prop extends Inv0 m where
 tn:m.T.n=m.cs.length+(m.nf+1)
 tl:m.T.st.length=m.T.n
 told:∀i,i<m.T.n->m.T.st.getD i 0=stI m i
theorem tellT_st (m:HM) (i:Nat):∀(k:Nat) (T:Sc.Tab),k<=T.n->T.st.length=T.n->(kC m k T).st.length=T.n/\(kC m k T).st.getD i 0=if i<k then (if T.st.getD i 0=2 then 2 else stI m i) else T.st.getD i 0
 |0,T,_,hl=>⟨hl,by simp[kC]⟩
 |k+1,T,hk,hl=>by
  obtain⟨h1,h2⟩:=tellT_st m i k T (by omega) hl
  have hn:=tellT_n m k T
  show (Sc.kJ (kC m k T) (k:Int) (stI m k)).st.length=_/\(Sc.kJ (kC m k T) (k:Int) (stI m k)).st.getD i 0=_
  unfold Sc.kJ
  split
  .rename_i hc
   refine⟨by show ((kC m k T).st.set _ _).length=_;rw[nU];exact h1,?_⟩
   show ((kC m k T).st.set (k:Int).toNat (stI m k)).getD i 0=_
   rw[Sc.getD_set,mV,h1]
   by_cases e:k=i
   .subst e
    rw[lu ⟨rfl,by omega⟩,lu (by omega)]
    have hc2:=hc.2.2
    rw[mV,h2,lz (by omega)] at hc2
    rw[lz hc2]
   .rw[lz (by simp[e]),h2]
    by_cases e2:i<k
    .rw[lu e2,lu (show i<k+1 by omega)]
    .rw[lz e2,lz (show ¬i<k+1 by omega)]
  .rename_i hc
   refine⟨h1,?_⟩
   rw[h2]
   by_cases e:k=i
   .subst e
    rw[lz (by omega),lu (by omega)]
    have h3:(kC m k T).st.getD k 0=2:=pA (λh3=>hc ⟨by omega,by rw[hn];omega,by rw[mV];exact h3⟩)
    rw[h2,lz (by omega)] at h3
    rw[h3,lu rfl]
   .by_cases e2:i<k
    .rw[lu e2,lu (show i<k+1 by omega)]
    .rw[lz e2,lz (show ¬i<k+1 by omega)]
theorem pick_st (T:Sc.Tab) (p:Int):(Sc.kD T p).st=T.st:=by
 unfold Sc.kD
 split
 .rfl
 .show (Sc.stepsM _ _ _).st=_
  exact Sc.steps_st _ _ _
theorem cg {m:HM} {i:Nat} (h:stI m i=0):∃c,m.cs[i]?=some c/\mayC (i:Int) m.L c=true:=by
 unfold stI at h
 split at h
 .rename_i hm
  unfold mayI at hm
  cases hc:m.cs[i]? with
  |none=>rw[hc] at hm;cases hm
  |some c=>rw[hc] at hm;exact⟨c,rfl,hm⟩
 .split at h
  .split at h<;>cases h
  .cases h
theorem Inv.run {m:HM} (h:Inv m) {t:Nat} (ht:t∈Sc.kG m.T):∃c,m.cs[t]?=some c/\preC (t:Int) m.L c/\(c.ph≠.idle->m.L.mayH (t:Int)=true):=by
 have hlt:=Sc.runM_lt ht
 have h0:m.T.st.getD t 0=0:=by
  unfold Sc.kG at ht
  simpa using (oD.1 ht).2
 rw[h.told t hlt] at h0
 obtain⟨c,hc,hm⟩:=cg h0
 exact⟨c,hc,h.toInv0.pre hc hm⟩
theorem client_cs {m:HM} {t:Nat} {c:Cl} (hc:m.cs[t]?=some c):(m.client t).cs=m.cs.set t (kE (t:Int) m.L c).2.1:=by unfold HM.client;rw[hc]
theorem Vs (m:HM) (t:Nat):(m.client t).nf=m.nf:=by unfold HM.client;split<;>rfl
theorem Inv.tell {m:HM} (h:Inv m) {t:Nat} {c:Cl} (hc:m.cs[t]?=some c) (h0:m.T.st.getD t 0=0) (hi:Inv0 (m.client t)) (p:Int) (k:Nat):Inv {m.client t with T:=kC (m.client t) m.T.n (Sc.kD m.T p),pk:=k}:=by
 have hst:=pick_st m.T p
 have hn:=Sc.pick_n m.T p
 have hl:(Sc.kD m.T p).st.length=(Sc.kD m.T p).n:=by rw[hst,hn];exact h.tl
 refine⟨⟨hi.ops,hi.lok,hi.la,hi.sb,hi.n8,hi.ci,hi.ld0,hi.ldc,hi.ldr,hi.tk,hi.cl0⟩,?_,?_,λi hin=>?_⟩
 .show (kC _ _ _).n=(m.client t).cs.length+_
  rw[tellT_n,hn,h.tn,client_cs hc,nU,Vs]
 .show (kC _ _ _).st.length=(kC _ _ _).n
  rw[tellT_n,(tellT_st (m.client t) 0 m.T.n (Sc.kD m.T p) (by rw[hn];exact lJ _) hl).1]
 .have hin2:i<m.T.n:=by
   have:i<(kC (m.client t) m.T.n (Sc.kD m.T p)).n:=hin
   rw[tellT_n,hn] at this;exact this
  show (kC _ _ _).st.getD i 0=stI (m.client t) i
  rw[(tellT_st (m.client t) i m.T.n (Sc.kD m.T p) (by rw[hn];exact lJ _) hl).2,lu hin2,hst]
  split
  .rename_i h2
   have ht:i≠t:=λe=>by subst e;rw[h0] at h2;cases h2
   rw[h.told i hin2] at h2
   unfold stI at h2
   split at h2
   .cases h2
   .split at h2
    .rename_i d hd
     split at h2
     .rename_i hen
      have hd2:(m.client t).cs[i]?=some d:=by rw[client_cs hc,po (nj ht)];exact hd
      have hph:d.ph=.idle/\d.nx=d.ops.length:=by unfold Cl.ended at hen;simpa using hen
      unfold stI
      have hmi:mayI (m.client t) i=false:=by
       unfold mayI;rw[hd2];show mayC _ _ d=false
       unfold mayC;rw[hph.1];simp[hph.2]
      rw[hmi,lz (by decide),hd2]
      simp only
      rw[lu hen]
     .cases h2
    .cases h2
  .rfl
theorem stepH_cases {m:HM} (h:Inv m) (p:Int):(kF m p=m/\Sc.kG m.T=[])\/∃(t:Nat) (c:Cl),m.cs[t]?=some c/\m.T.st.getD t 0=0/\preC (t:Int) m.L c/\kF m p={m.client t with T:=kC (m.client t) m.T.n (Sc.kD m.T p),pk:=m.pk+1}:=by
 unfold kF
 split
 .rename_i hr;exact .inl ⟨rfl,hr⟩
 .rename_i hr
  have hmem:=Sc.who_mem p hr
  obtain⟨c,hc,hpre,_⟩:=h.run hmem
  refine .inr ⟨Sc.whoM m.T p,c,hc,?_,hpre,?_⟩
  .unfold Sc.kG at hmem
   simpa using (oD.1 hmem).2
  .have e:({m with T:=Sc.kD m.T p,pk:=m.pk+1}:HM).client (Sc.whoM m.T p)={m.client (Sc.whoM m.T p) with T:=Sc.kD m.T p,pk:=m.pk+1}:=by
    unfold HM.client
    show (match m.cs[Sc.whoM m.T p]? with|some c=>_|none=>_)=_
    rw[hc]
   rw[e]
   have e2:∀k,kC {m.client (Sc.whoM m.T p) with T:=Sc.kD m.T p,pk:=m.pk+1} k (Sc.kD m.T p)=kC (m.client (Sc.whoM m.T p)) k (Sc.kD m.T p):=λk=>by
    induction k with
    |zero=>rfl
    |succ k ih=>show Sc.kJ (kC _ k _) _ _=Sc.kJ (kC _ k _) _ _;rw[ih];rfl
   rw[e2]
def rk:Ph->Nat
 |.idle=>0
 |.rd 1=>8
 |.rd 2=>7
 |.rd 3=>6
 |.rd _=>5
 |.wr 0=>8
 |.wr 1=>7
 |.wr 2=>6
 |.wr _=>5
 |.rm 1=>4
 |.rm 6=>3
 |.rm 7=>2
 |.rm _=>1
def muC (c:Cl):Nat:=if c.ph=.idle then 9*(c.ops.length-c.nx) else 9*(c.ops.length-c.nx-1)+rk c.ph
def mu (m:HM):Nat:=(m.cs.map muC).sum
theorem Yo {L:Lf} {c:Cl} (hp:preC t L c) (hn:c.ph≠.idle->c.nx<c.ops.length):muC (kE t L c).2.1<muC c:=by
 obtain⟨ops,nx,ph⟩:=c
 have hr:∀a b:Nat,rk (.rd (if a=3 then 2 else 3))<8/\rk (.wr (if a=3 then 1 else 2))<8:=λa b=>by
  constructor<;>split<;>decide
 have hd:∀k:Nat,0<k->nx<ops.length->9*(ops.length-(nx+1))<9*(ops.length-nx-1)+k:=λk hk h=>by omega
 cases ph with
 |idle =>
  obtain⟨h1,_⟩:=hp
  have h1:nx<ops.length:=h1
  unfold kE;dsimp only
  by_cases hT:BH (Cl.op ⟨ops,nx,.idle⟩)=true
  .rw[lu hT]
   show muC ⟨ops,nx+1,.idle⟩<muC ⟨ops,nx,.idle⟩
   unfold muC;simp;omega
  rw[lz hT]
  show muC ⟨ops,nx,if (Cl.op ⟨ops,nx,.idle⟩).kind=4 then .rd 1 else .wr 0⟩<muC ⟨ops,nx,.idle⟩
  unfold muC
  by_cases h4:(Cl.op ⟨ops,nx,.idle⟩).kind=4
  .simp only[h4,mA];simp[rk];omega
  .simp only[h4,nz];simp[rk];omega
 |rd a =>
  have h1:nx<ops.length:=hn (by simp)
  match a,hp with
  |1,_ =>
   show muC ⟨ops,nx,.rd (if (L.pin t).1=3 then 2 else 3)⟩<_
   unfold muC
   by_cases h3:(L.pin t).1=3<;>simp[h3,rk]
  |2,_=>show muC ⟨ops,nx,.rd 3⟩<_;unfold muC;simp[rk]
  |3,_=>show muC ⟨ops,nx,.rd 5⟩<_;unfold muC;simp[rk]
  |5,_=>show muC ⟨ops,nx+1,.idle⟩<_;unfold muC;simp[rk];omega
 |wr a =>
  have h1:nx<ops.length:=hn (by simp)
  match a,hp with
  |0,_ =>
   show muC ⟨ops,nx,.wr (if (L.pin t).1=3 then 1 else 2)⟩<_
   unfold muC
   by_cases h3:(L.pin t).1=3<;>simp[h3,rk]
  |1,_=>show muC ⟨ops,nx,.wr 2⟩<_;unfold muC;simp[rk]
  |2,_=>show muC ⟨ops,nx,.wr 3⟩<_;unfold muC;simp[rk]
  |3,_ =>
   show muC (if Cv (lfd (Bs (lfe L) (mOf (Cl.op ⟨ops,nx,.wr 3⟩))))=true then _ else _:Lf×Cl×Bool×List Evt).2.1<_
   split
   .show muC ⟨ops,nx+1,.idle⟩<_;unfold muC;simp[rk];omega
   .show muC ⟨ops,nx,.rm 1⟩<_;unfold muC;simp[rk]
 |rm a =>
  have h1:nx<ops.length:=hn (by simp)
  match a,hp with
  |1,_=>show muC ⟨ops,nx,.rm 6⟩<_;unfold muC;simp[rk]
  |6,_=>show muC ⟨ops,nx,.rm 7⟩<_;unfold muC;simp[rk]
  |7,_=>show muC ⟨ops,nx,.rm 10⟩<_;unfold muC;simp[rk]
  |10,_=>show muC ⟨ops,nx+1,.idle⟩<_;unfold muC;simp[rk];omega
theorem TH:∀{l:List Cl} {t:Nat} {c c':Cl},l[t]?=some c->muC c'<muC c->((l.set t c').map muC).sum<(l.map muC).sum
 |[],t,c,c',h,_=>by simp at h
 |x::l,0,c,c',h,hl=>by simp at h;subst h;simp[hl]
 |x::l,t+1,c,c',h,hl=>by
  have:=TH (l:=l) (t:=t) (c:=c) (c':=c') (by simpa using h) hl
  simpa using this
end Lo
end Go.Proofs.YtloldofjddbjoaaGreat
