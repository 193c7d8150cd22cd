/- Part 6 of the proof. No condition. -/
import Derived.Test.YtloldofjddbjoaaGreatT5
set_option linter.unusedVariables false
set_option linter.unusedSimpArgs false
set_option maxHeartbeats 8000000
set_option maxRecDepth 100000
namespace Go.Proofs.YtloldofjddbjoaaGreat
open Go.Sep Go.RowKit Tryz
variable {x:HQ} {B:Nat}
theorem bB (bH bt:Nat) (vh vT vO vE:Value) (sq pk:Int) (ev:List Evt) (hev:ev.length<=59999) (b nx:Nat) (hnx:nx<=1000) (t:Int) (vo:Value) (ops:List Opn) {o:Opn} (hop:ops[nx]?=some o) (hol:ops.length<=1000) (hk9:o.key.size<=9223372036854775807) (hkd:o.kind=1\/o.kind=2\/o.kind=3\/o.kind=4):Con prog 81 [ptV bH,.int .i64 t,ptV b] (fun _=>True) [HSE bH vh bt vT vO vE sq pk,Az vE 71 Evt.enc ev,CLE b vo nx [.pointer none,.pointer none],Az vo 43 Opn.enc ops] (fun r:Value×Nat=>.tuple #[]) (fun _=>True) (fun r=>[HSE bH vh bt vT vO r.1 sq pk,Az r.1 71 Evt.enc (ev++(bgR t nx o).2.1),CLE b vo (bgR t nx o).1 ((bgR t nx o).2.2 r.2).1,Az vo 43 Opn.enc ops]++((bgR t nx o).2.2 r.2).2):=by
 intro w hE hH
 have hnl:=(gl.1 hop).1
 refine Ey func81 I hH ?_
 refine Ag (Do8 (rg 16) 42160986 (fun w2=>(HSE bH vh bt vT vO vE sq pk).at w2/\(CLE b vo nx [.pointer none,.pointer none]).at w2) I St.drawn (H2 0 2 I) (Dm I (Dm I (Dc I (Dfa Co I Z34 I (Dq I (Ao I isAgg34 I (fun _ h=>h.1) I) (Dm I (Dm I (Dc I (Dfa Db I Z3 I (Dq I (Ao I G3 I (fun _ h=>h.2) I) (Dq I (AN (Evt.c (⟨t,(nx:Int),false,Bx⟩:Evt)) I I (fun w=>by kernel_rfl)) (d_e I (Ax (sz:=22) [.tmp 20] I I I I I U34 Z71 I zeroValue71 (by simp[Value.cells,Evt.e6]) (fun b2=>Aj (H2 1 3 I) (AV (d_e I (Ap U34 U34 Pp I (fun _ h=>AW (h.at 1 I) Evt.enc [(⟨t,(nx:Int),false,Bx⟩:Evt)] I I) (by simp only[fL,fv,jn];omega) (fun v2=>AM (Av (Aj (H2 1 2 I) (d_t I (e_q I I (Bt I I) (d_t I (e_q I I (Ba I Co I Z34 I I) (Pre.fact (fun _ h=>B0 (h.at 0 I)) ?_))))))))))))))))))))))))))
 rintro⟨av,cv,hv2⟩
 refine AM (d_t I (AF I I Z34 I I (by rw[hv2];rfl) (iy I) (Ce [vh,ptV bt,vT,vO,v2,.int .u64 sq,.int .i64 pk] I (AK (Ks (Do8 (rg 12) 413343 (fun w2=>(CLE b vo nx [.pointer none,.pointer none]).at w2/\RdV w2 vo Opn.enc ops) I St.drawn (fun _ h=>⟨h.at 2 rfl,h.rd 3 rfl⟩) (Dm I (Dc I (Dfa Db I Z40 I (Dq I (Ao I G40 I (fun _ h=>h.1) I) (Dm I (Dc I (Dfa Db I Z3 I (Dq I (Ao I G3 I (fun _ h=>h.1) I) (Dq I (As nx I U40 Z43 I (fun _ h=>h.2) I I (by omega)) (Dq I (AU nx I G43 Z43 I I (fun _ h=>h.2) hop) (d_e I (Au I I I zeroValue43 (fun bo=>Ce [.int .i64 0,.string ⟨#[]⟩,.string ⟨#[]⟩,.int .u64 0] I (Aj (fun _ h=>⟨h.at 3 rfl,h.rd 4 rfl⟩) (d_t I (Ah I I Z43 I I I (Opn.one o) (by show 0+4<=4;decide) (Ce (Opn.c o) (Sep.e7 I) (AK (Kt (Cs I (Lfa U43 I Z9 I (Lo G9 0 I ?_))))))))))))))))))))))))))))
 by_cases hk8:o.key.size<=8
 · refine l_e I (E1 (Q5 o.key hk9) I call125 Tt (fun _ _=>Sv' 38 (.tuple #[.agg (kOf o).c.toArray,.int .i64 0]) I (by first|(rw[dif_pos hk8];rfl)|(unfold kOf;rw[dif_pos hk8,dif_pos hk8])) (Lm I (Lq I (Qx I) (Lq I (Qx I) (l_e I (Au I I I zeroValue77 (fun bk=>Ce (kv0 8).c I (l_e I (Ah I I Z77 I I (Kv.e6 _) (Kv.one _) (by simp only[Kv.e6];decide) (Ce (kOf o).c (Sep.e7 (by simp only[Kv.e6])) (Ak I (Cs I (Lfa U43 I Z3 I (Lo G3 1 I (Lq I (Cq ((kOf o).c) G77 Z77 0 I (AY _) (Kv.e6 _)) (Lq I (AN (Ms.c (m0 o)) I I (VT o.kind o.wk (kOf o))) (l_e I (Au I I I zeroValue154 (fun bm=>Ce ms0.c I (l_e I (Ah I I Bi I I (Ms.e6 _) (Ms.one _) (by simp only[Ms.e6];decide) (Ce (Ms.c (m0 o)) (Sep.e7 (by simp only[Ms.e6])) (Ns (Cs I (Lfa U43 I Z3 I (Lo G3 2 I (Lq I (Qe I) (Lm I ?_)))))))))))))))))))))))))))))
   rcases hkd with hkd|hkd|hkd|hkd
   · by_cases hv16:o.val.size<=16
     · refine Sb 48 true I (by first|rfl|(rw[hkd];rfl)|exact jo hk1|exact jo hk3) (Lm I (Lq I (Qe I) (Lq I (Qy I) (Nk (Sb 51 true I (by first|rfl|(rw[hkd];rfl)|exact jo hk1|exact jo hk3) (Ai I (Cr I (Lfa U43 I Z9 I (Lo G9 2 I (l_e I (E1 (XK o.val hv16) I call126 Tt (fun _ _=>Lm I (Lq I (Qx I) (Lq I (Qx I) (Lfa B7 I Z56 I (l_e I (Ah I I Z56 I I (Kv.e6 _) (Kv.one _) (by rw[Kv.e6,Ms.e6];decide) (Ay (Ms.set_val _ _) (Ak I (Ag (Cs I (Lfa U43 I Z3 I (Lo G3 2 I (Lq I (Qe I) (Nk (Sb 61 false I (by first|rfl|(rw[hkd];rfl)|exact jo hk1|exact jo hk3) (Ab I (Ae (Kt (Al (Cs I (Lm I (Lq I (Qn I) (Ak I (Sb 71 false I (by first|rfl|(rw[hkd];rfl)|exact jo hk1|exact jo hk3) ?_)))))))))))))))))))))))))))))))))))
       refine Ab I (Cs I (Lfa U43 I Z3 I (Lo G3 2 I (Lq I (Qe I) (Ak I (Sb 80 false I (by first|rfl|(rw[hkd];rfl)|exact jo hk1|exact jo hk3) (Ab I (Cr I (Lm I (Lm I (Lq I (Cq (((m0 o).setVal (vof o.val hv16)).c) Cm Bi 0 I (Bm _) (Ms.e6 _)) (l_e I (AX (VW t ((m0 o).setVal (vof o.val hv16))) I I I call128 I Tt (fun bw _=>Lc I (Lfa Db I F1 I ?_)))))))))))))))
       rw[show ((m0 o).setVal (vof o.val hv16))=mOf o from by rw[Rx hkd,bu hv16]] 
       refine D0 (l_e I (AF I I F1 I I I (iy I) (Ce [vo,.int .i64 (nx:Int),.pointer none,ptV bw] I (AB (Aw (Bl (Pm [3,2,2,2,2,0,1] I (Av (Av (Av (Bv I ?_)))))))))))
       exact fun _ h=>⟨(v2,bw),rfl,trivial,by rw[Yq (by unfold BX;rw[jq hk8,hkd];simp[hv16]) hkd];exact h⟩
     · refine Sb 48 true I (by first|rfl|(rw[hkd];rfl)|exact jo hk1|exact jo hk3) (Lm I (Lq I (Qe I) (Lq I (Qy I) (Nk (Sb 51 true I (by first|rfl|(rw[hkd];rfl)|exact jo hk1|exact jo hk3) (Ai I (Cr I (Lfa U43 I Z9 I (Lo G9 2 I (l_e I (E1 (ZU o.val hv16) I call126 Tt (fun _ _=>Lm I (Lq I (Qx I) (Lq I (Qx I) (Lfa B7 I Z56 I (l_e I (Ah I I Z56 I I (Kv.e6 _) (Kv.one _) (by rw[Kv.e6,Ms.e6];decide) (Ay (Ms.set_val _ _) (Ak I (Ag (Cs I (Lfa U43 I Z3 I (Lo G3 2 I (Lq I (Qe I) (Nk (Sb 61 false I (by first|rfl|(rw[hkd];rfl)|exact jo hk1|exact jo hk3) (Ab I (Ae (Kt (Al (Cs I (Lm I (Lq I (Qn I) (Ak I (Sb 71 true I (by first|rfl|(rw[hkd];rfl)|exact jo hk1|exact jo hk3) ?_)))))))))))))))))))))))))))))))))))
       refine Ai I (Cr I (Lm I (Lm I (Lm I (Lm I (Lq I (AN (Ans.c (⟨2,false,kv0 16⟩:Ans)) I I (fun w=>by kernel_rfl)) (Pm [3,3,3] I (l_e I (BL (FI bH bt vh vT vO v2 sq pk (ev++[(⟨t,(nx:Int),false,Bx⟩:Evt)]) (by rw[fL];show ev.length+1<=60000;omega) b nx hnx t vo _ _ (⟨2,false,kv0 16⟩:Ans)) I I I call79 I Tt (fun v3 _=>AB (Aw (Bl (Pm [4,3,3] I (Av (Av (Av (Bv I ?_)))))))))))))))))
       exact fun _ h=>⟨(v3,0),rfl,trivial,by rw[Kj (by unfold BX;rw[hkd,jo hv16];simp)];rw[gK] at h;exact h⟩
   · refine Sb 48 false I (by first|rfl|(rw[hkd];rfl)|exact jo hk1|exact jo hk3) (Lx I (Lx I (Lq I (Qz I) (Nk (Ab I (Ae (Ks (Cs I (Lfa U43 I Z3 I (Lo G3 2 I (Lq I (Qe I) (Nk (Sb 61 false I (by first|rfl|(rw[hkd];rfl)|exact jo hk1|exact jo hk3) (Ab I (Ae (Kt (Al (Cs I (Lm I (Lq I (Qn I) (Ak I (Sb 71 false I (by first|rfl|(rw[hkd];rfl)|exact jo hk1|exact jo hk3) (Ab I ?_)))))))))))))))))))))))
     refine Cs I (Lfa U43 I Z3 I (Lo G3 2 I (Lq I (Qe I) (Ak I (Sb 80 false I (by first|rfl|(rw[hkd];rfl)|exact jo hk1|exact jo hk3) (Ab I (Cr I (Lm I (Lm I (Lq I (Cq ((m0 o).c) Cm Bi 0 I (Bm _) (Ms.e6 _)) (l_e I (AX (VW t (m0 o)) I I I call128 I Tt (fun bw _=>Lc I (Lfa Db I F1 I ?_))))))))))))))
     rw[show (m0 o)=mOf o from by rw[Rz hkd]] 
     refine D0 (l_e I (AF I I F1 I I I (iy I) (Ce [vo,.int .i64 (nx:Int),.pointer none,ptV bw] I (AB (Aw (Bl (Pm [3,2,2,2,2,0,1] I (Av (Av (Av (Bv I ?_)))))))))))
     exact fun _ h=>⟨(v2,bw),rfl,trivial,by rw[Yr (by unfold BX;rw[jq hk8,hkd];simp) hkd];exact h⟩
   · refine Sb 48 false I (by first|rfl|(rw[hkd];rfl)|exact jo hk1|exact jo hk3) (Lx I (Lx I (Lq I (Qz I) (Nk (Ab I (Ae (Ks (Cs I (Lfa U43 I Z3 I (Lo G3 2 I (Lq I (Qe I) (Nk (Sb 61 true I (by first|rfl|(rw[hkd];rfl)|exact jo hk1|exact jo hk3) (Ai I (Cr I (Lfa U43 I Z41 I (Lo G41 2 I (Lfa B7 I Z41 I (l_e I (AF I I Z41 I I I (by rw[Ms.e6];decide) (Ay (Ms.set_by _ _ o.wb) (Nk (Al ?_)))))))))))))))))))))))
     refine Cs I (Lm I (Lq I (Qn I) (Ak I (Sb 71 false I (by first|rfl|(rw[hkd];rfl)|exact jo hk1|exact jo hk3) (Ab I (Cs I (Lfa U43 I Z3 I (Lo G3 2 I (Lq I (Qe I) (Ak I (Sb 80 false I (by first|rfl|(rw[hkd];rfl)|exact jo hk1|exact jo hk3) (Ab I (Cr I (Lm I (Lm I (Lq I (Cq (((m0 o).setBy o.by' o.wb).c) Cm Bi 0 I (Bm _) (Ms.e6 _)) (l_e I (AX (VW t ((m0 o).setBy o.by' o.wb)) I I I call128 I Tt (fun bw _=>Lc I (Lfa Db I F1 I ?_))))))))))))))))))))
     rw[show ((m0 o).setBy o.by' o.wb)=mOf o from by rw[Ry hkd]] 
     refine D0 (l_e I (AF I I F1 I I I (iy I) (Ce [vo,.int .i64 (nx:Int),.pointer none,ptV bw] I (AB (Aw (Bl (Pm [3,2,2,2,2,0,1] I (Av (Av (Av (Bv I ?_)))))))))))
     exact fun _ h=>⟨(v2,bw),rfl,trivial,by rw[Ys (by unfold BX;rw[jq hk8,hkd];simp) hkd];exact h⟩
   · refine Sb 48 false I (by first|rfl|(rw[hkd];rfl)|exact jo hk1|exact jo hk3) (Lx I (Lx I (Lq I (Qz I) (Nk (Ab I (Ae (Ks (Cs I (Lfa U43 I Z3 I (Lo G3 2 I (Lq I (Qe I) (Nk (Sb 61 false I (by first|rfl|(rw[hkd];rfl)|exact jo hk1|exact jo hk3) (Ab I (Ae (Kt (Al (Cs I (Lm I (Lq I (Qn I) (Ak I (Sb 71 false I (by first|rfl|(rw[hkd];rfl)|exact jo hk1|exact jo hk3) (Ab I ?_)))))))))))))))))))))))
     refine Cs I (Lfa U43 I Z3 I (Lo G3 2 I (Lq I (Qe I) (Ak I (Sb 80 true I (by first|rfl|(rw[hkd];rfl)|exact jo hk1|exact jo hk3) (Ai I (Cr I (Lm I (Lm I (Lq I (Cq ((kOf o).c) G77 Z77 1 I (AY _) (Kv.e6 _)) (l_e I (AX (dF t (kOf o)) I I I call127 I Tt (fun bw _=>Lc I (Lfa Db I GB I (D0 (l_e I (AF I I GB I I I (iy I) (Ce [vo,.int .i64 (nx:Int),ptV bw,.pointer none] I (AB (Aw (Bl (Pm [3,2,2,2,2,0,1] I (Av (Av (Av (Bv I ?_))))))))))))))))))))))))))
     exact fun _ h=>⟨(v2,bw),rfl,trivial,by rw[VX (by unfold BX;rw[jq hk8,hkd];simp) hkd];exact h⟩
 · refine l_e I (E1 (Q5 o.key hk9) I call125 Tt (fun _ _=>Sv' 38 (.tuple #[.agg (kv0 8).c.toArray,.int .i64 2]) I (by rw[dif_neg hk8];rfl) (Lm I (Lq I (Qx I) (Lq I (Qx I) (l_e I (Au I I I zeroValue77 (fun bk=>Ce (kv0 8).c I (l_e I (Ah I I Z77 I I (Kv.e6 _) (Kv.one _) (by simp only[Kv.e6];decide) (Ce (kv0 8).c (Sep.e7 (by simp only[Kv.e6])) (Ak I (Cs I (Lfa U43 I Z3 I (Lo G3 1 I (Lq I (Cq ((kv0 8).c) G77 Z77 0 I (AY _) (Kv.e6 _)) (Lq I (AN (Ms.c (mZ o)) I I (VT o.kind o.wk (kv0 8))) (l_e I (Au I I I zeroValue154 (fun bm=>Ce ms0.c I (l_e I (Ah I I Bi I I (Ms.e6 _) (Ms.one _) (by simp only[Ms.e6];decide) (Ce (Ms.c (mZ o)) (Sep.e7 (by simp only[Ms.e6])) (Ns (Cs I (Lfa U43 I Z3 I (Lo G3 2 I (Lq I (Qe I) (Lm I ?_)))))))))))))))))))))))))))))
   rcases kd3 o hkd with hkd|hkd|⟨hk1,hk3⟩
   · refine Sb 48 true I (by first|rfl|(rw[hkd];rfl)|exact jo hk1|exact jo hk3) (Lm I (Lq I (Qe I) (Lq I (Qy I) (Nk (Sb 51 false I (by first|rfl|(rw[hkd];rfl)|exact jo hk1|exact jo hk3) (Ab I (Ae (Ks (Cs I (Lfa U43 I Z3 I (Lo G3 2 I (Lq I (Qe I) (Nk (Sb 61 false I (by first|rfl|(rw[hkd];rfl)|exact jo hk1|exact jo hk3) (Ab I (Ae (Kt (Al (Cs I (Lm I (Lq I (Qn I) (Ak I (Sb 71 true I (by first|rfl|(rw[hkd];rfl)|exact jo hk1|exact jo hk3) ?_)))))))))))))))))))))))
     refine Ai I (Cr I (Lm I (Lm I (Lm I (Lm I (Lq I (AN (Ans.c (⟨2,false,kv0 16⟩:Ans)) I I (fun w=>by kernel_rfl)) (Pm [3,3,3] I (l_e I (BL (FI bH bt vh vT vO v2 sq pk (ev++[(⟨t,(nx:Int),false,Bx⟩:Evt)]) (by rw[fL];show ev.length+1<=60000;omega) b nx hnx t vo _ _ (⟨2,false,kv0 16⟩:Ans)) I I I call79 I Tt (fun v3 _=>AB (Aw (Bl (Pm [4,3,3] I (Av (Av (Av (Bv I ?_)))))))))))))))))
     exact fun _ h=>⟨(v3,0),rfl,trivial,by rw[Kj (by unfold BX;rw[jo hk8];rfl)];rw[gK] at h;exact h⟩
   · refine Sb 48 false I (by first|rfl|(rw[hkd];rfl)|exact jo hk1|exact jo hk3) (Lx I (Lx I (Lq I (Qz I) (Nk (Ab I (Ae (Ks (Cs I (Lfa U43 I Z3 I (Lo G3 2 I (Lq I (Qe I) (Nk (Sb 61 true I (by first|rfl|(rw[hkd];rfl)|exact jo hk1|exact jo hk3) (Ai I (Cr I (Lfa U43 I Z41 I (Lo G41 2 I (Lfa B7 I Z41 I (l_e I (AF I I Z41 I I I (by rw[Ms.e6];decide) (Ay (Ms.set_by _ _ o.wb) (Nk (Al ?_)))))))))))))))))))))))
     refine Cs I (Lm I (Lq I (Qn I) (Ak I (Sb 71 true I (by first|rfl|(rw[hkd];rfl)|exact jo hk1|exact jo hk3) (Ai I (Cr I (Lm I (Lm I (Lm I (Lm I (Lq I (AN (Ans.c (⟨2,false,kv0 16⟩:Ans)) I I (fun w=>by kernel_rfl)) (Pm [3,3,3] I (l_e I (BL (FI bH bt vh vT vO v2 sq pk (ev++[(⟨t,(nx:Int),false,Bx⟩:Evt)]) (by rw[fL];show ev.length+1<=60000;omega) b nx hnx t vo _ _ (⟨2,false,kv0 16⟩:Ans)) I I I call79 I Tt (fun v3 _=>AB (Aw (Bl (Pm [4,3,3] I (Av (Av (Av (Bv I ?_))))))))))))))))))))))
     exact fun _ h=>⟨(v3,0),rfl,trivial,by rw[Kj (by unfold BX;rw[jo hk8];rfl)];rw[gK] at h;exact h⟩
   · refine Sb 48 false I (by first|rfl|(rw[hkd];rfl)|exact jo hk1|exact jo hk3) (Lx I (Lx I (Lq I (Qz I) (Nk (Ab I (Ae (Ks (Cs I (Lfa U43 I Z3 I (Lo G3 2 I (Lq I (Qe I) (Nk (Sb 61 false I (by first|rfl|(rw[hkd];rfl)|exact jo hk1|exact jo hk3) (Ab I (Ae (Kt (Al (Cs I (Lm I (Lq I (Qn I) (Ak I (Sb 71 true I (by first|rfl|(rw[hkd];rfl)|exact jo hk1|exact jo hk3) (Ai I ?_)))))))))))))))))))))))
     refine Cr I (Lm I (Lm I (Lm I (Lm I (Lq I (AN (Ans.c (⟨2,false,kv0 16⟩:Ans)) I I (fun w=>by kernel_rfl)) (Pm [3,3,3] I (l_e I (BL (FI bH bt vh vT vO v2 sq pk (ev++[(⟨t,(nx:Int),false,Bx⟩:Evt)]) (by rw[fL];show ev.length+1<=60000;omega) b nx hnx t vo _ _ (⟨2,false,kv0 16⟩:Ans)) I I I call79 I Tt (fun v3 _=>AB (Aw (Bl (Pm [4,3,3] I (Av (Av (Av (Bv I ?_))))))))))))))))
     exact fun _ h=>⟨(v3,0),rfl,trivial,by rw[Kj (by unfold BX;rw[jo hk8];rfl)];rw[gK] at h;exact h⟩
theorem VY {v:Wv} {t:Int} {m:Ms} {b br:Nat} {w0 w:World} {D:List Nat} {e1 e2 e3 e4:Ent} {H:List Ent} (h:St w0 D (e1::e2::e3::e4::(v.H t m b br++H)) w):St w0 D (e1::e2::e3::e4::H) w :=
 h.sublist (((((kv _ _).cons_cons _).cons_cons _).cons_cons _).cons_cons _)
section
variable {P:Program} {n:Nat} {L:Env} {o:Oper} {Q:Exit->Act->World->Prop} {K:Act->World->Prop} {w0:World} {D:List Nat}
theorem Yt {β:Type} {v:β->Value} {p:β->Prop} {E:World->Prop} (HA F:List Ent) {HB:β->List Ent} {f:FuncId} {xs:List Operand} {ts:Array TypeId} {d:Nat} {vs:List Value} (s:Con P f vs E HA v p HB) (ho:o.op=.call ⟨.value (.func f),xs.toArray,ts⟩) (hd:o.dst=some d) (hn:d.blt n=true)
 (hc:∀us w,(callFunc f us).run P w=.ok (.enter f us) w) (hv:evs L xs=some vs) (hE:∀w,St w0 D (HA++F) w->E w) (h:∀b,p b->Pre n ((d,v b)::L) (St w0 D (HB b++F)) K):EOp P n L (St w0 D (HA++F)) o Q K :=
 Dw ho hd hn hc hv (fun w x=>s.frame (F:=F) x (hE w x)) h
end
theorem VZ (b:Nat) (r:Rdr):Con prog 78 [ptV b] (fun _=>True) [RDE b r] (fun _:Unit=>.tuple #[.agg r.v.c.toArray,.bool r.f]) (fun _=>True) (fun _=>[RDE b r]):=by
 intro w hE hH
 refine Ey func78 I hH ?_
 refine Cs I (l_e I (Au I I I zeroValue56 (fun bv=>Ce (kv0 16).c I (Ak I (Ag (Do8 (rg 10) 45927 (fun w2=>(RDE b r).at w2) I St.drawn (Hat 1 I) (Dm I (Dc I (Dfa Bw I Z56 I (Dq I (AP ((Rdr.v r).c) I G56 Z56 I Ih (Rdr.v_part _) (Kv.e6 _)) (Dm I (Dc I (Dfa Bw I Z4 I (Dq I (Ao I G4 I Ih (Rdr.f_at _)) (d_e I (Ah I I Z56 I I (Kv.e6 _) (Kv.one _) (by simp only[Kv.e6];decide) (Ce (Kv.c (Rdr.v r)) (Sep.e7 (by simp only[Kv.e6])) (Aj (Hat 1 I) (d_t I (e_q I I (AE I I) (AK (Kt (Af (BI I (AJ I G56 Z56 (Hat 0 I) (Kv.e6 _)) (show Sep.look _ _=some _ from I) ?_))))))))))))))))))))))))
 exact fun _ h=>⟨(),rfl,trivial,h.drop⟩
theorem crd (h:x.Ok B) (hB:B+1<=60000) {t:Int} (ht:tkB t=true) (bH bt:Nat) (vT vO vE:Value) (sq pk:Int) (ev:List Evt) (hev:ev.length<=60000) (b nx bw br:Nat) (hnx:nx<=1000) (vo:Value) (ops:List Opn) {r r2:Rdr} (hrt:r.t=t) (hmay:x.hm.may t=true) (hp:rdP x.hm r) {L2:Hm} (hq:rdS x.hm r=(L2,r2,false)):Con prog 39 [ptV bH,.int .i64 t,ptV b] (fun _=>True) (HSE bH (ptV x.bh) bt vT vO vE sq pk::Az vE 71 Evt.enc ev::CLE b vo nx [ptV bw,.pointer none]::Az vo 43 Opn.enc ops::RDE bw r::x.H) (fun y:HQ=>.tuple #[]) (fun y=>y.bh=x.bh/\y.Ok (B+1)/\y.hm=L2) (fun y=>HSE bH (ptV x.bh) bt vT vO vE sq pk::Az vE 71 Evt.enc ev::CLE b vo (nx) [ptV bw,.pointer none]::Az vo 43 Opn.enc ops::RDE bw r2::y.H):=by
 intro w hE hH
 refine Ey func39 I hH ?_
 refine Al (Cs I (Lm I (Lc I (Lfa Db I GB I (Lo I9 2 I (Lq I (DR I Mc I I) (Ak I (Sb 15 true I (I) (Ai I (Ag (Do8 (rg 9) 13122 (fun w2=>(HSE bH (ptV x.bh) bt vT vO vE sq pk).at w2/\(CLE b vo nx [ptV bw,.pointer none]).at w2) I St.drawn (H2 0 2 I) (Dm I (Dc I (Dfa Db I GB I (Dq I (Ao I I9 I (fun _ h=>h.2) I) (Dm I (Dc I (Dfa Co I Z47 I (Dq I (Ao I G47 I (fun _ h=>h.1) I) (d_t I ?_))))))))))))))))))))
 have hs:=Rv h hB bw r (by rw[hrt];exact ht) (by rw[hrt];exact hmay) hp
 rw[hq] at hs
 refine Ee [_,_,_,_] hs I call77 Tt ?_
 rintro y ⟨hbh,hk,hy⟩
 refine Pw (St _ _ (_::_::_::_::RDE bw r2::HQ.H y)) ?_
 refine AK (Kt (Ab I (Ae (Aw (Bl (Bv I ?_))))))
 exact fun _ hh=>⟨y,rfl,⟨hbh,hk,hy⟩,hh⟩
theorem eF (h:x.Ok B) (hB:B+1<=60000) {t:Int} (ht:tkB t=true) (bH bt:Nat) (vT vO vE:Value) (sq pk:Int) (ev:List Evt) (hev:ev.length<=60000) (b nx bw br:Nat) (hnx:nx<=1000) (vo:Value) (ops:List Opn) {r r2:Rdr} (hrt:r.t=t) (hmay:x.hm.may t=true) (hp:rdP x.hm r) {L2:Hm} (hq:rdS x.hm r=(L2,r2,true)):Con prog 39 [ptV bH,.int .i64 t,ptV b] (fun _=>True) (HSE bH (ptV x.bh) bt vT vO vE sq pk::Az vE 71 Evt.enc ev::CLE b vo nx [ptV bw,.pointer none]::Az vo 43 Opn.enc ops::RDE bw r::x.H) (fun r:Value×HQ=>.tuple #[]) (fun r=>r.2.bh=x.bh/\r.2.Ok (B+1)/\r.2.hm=L2) (fun r=>HSE bH (ptV x.bh) bt vT vO r.1 sq pk::Az r.1 71 Evt.enc (ev++[⟨t,(nx:Int),true,(⟨0,Rdr.f r2,Rdr.v r2⟩:Ans)⟩])::CLE b vo (nx+1) [.pointer none,.pointer none]::Az vo 43 Opn.enc ops::r.2.H):=by
 intro w hE hH
 refine Ey func39 I hH ?_
 refine Al (Cs I (Lm I (Lc I (Lfa Db I GB I (Lo I9 2 I (Lq I (DR I Mc I I) (Ak I (Sb 15 true I (I) (Ai I (Ag (Do8 (rg 9) 13122 (fun w2=>(HSE bH (ptV x.bh) bt vT vO vE sq pk).at w2/\(CLE b vo nx [ptV bw,.pointer none]).at w2) I St.drawn (H2 0 2 I) (Dm I (Dc I (Dfa Db I GB I (Dq I (Ao I I9 I (fun _ h=>h.2) I) (Dm I (Dc I (Dfa Co I Z47 I (Dq I (Ao I G47 I (fun _ h=>h.1) I) (d_t I ?_))))))))))))))))))))
 have hs:=Rv h hB bw r (by rw[hrt];exact ht) (by rw[hrt];exact hmay) hp
 rw[hq] at hs
 refine Ee [_,_,_,_] hs I call77 Tt ?_
 rintro y ⟨hbh,hk,hy⟩
 refine Pw (St _ _ (_::_::_::_::RDE bw r2::HQ.H y)) ?_
 refine AK (Kt (Ai I (Cs I (Lm I (Lc I (Lfa Db I GB I (Lo I9 2 I (CY (l_e I (Bg (VZ bw r2) I I I call78 I Tt (fun _ _=>Lm I (Lq I (Qx I) (Lq I (Qx I) (l_e I (Au I I I zeroValue56 (fun bv=>Ce (kv0 16).c I (l_e I (Ah I I Z56 I I (Kv.e6 _) (Kv.one _) (by simp only[Kv.e6];decide) (Ce (Kv.c (Rdr.v r2)) (Sep.e7 (by simp only[Kv.e6])) (Ak I (Cr I (Lm I (Lm I (Lm I (Lm I (Lq I (Cq ((Rdr.v r2).c) G56 Z56 0 I (AY _) (Kv.e6 _)) (Lq I (AN (Ans.c (⟨0,Rdr.f r2,Rdr.v r2⟩:Ans)) I I (dD (Rdr.f r2) (Rdr.v r2))) (Pm [2,2,2] I (l_e I (BL (FI bH bt (ptV x.bh) vT vO vE sq pk ev hev b nx hnx t vo _ _ (⟨0,Rdr.f r2,Rdr.v r2⟩:Ans)) I I I call79 I Tt (fun v2 _=>AB (Aw (Bl (Pm [3,3] I (Av (Av (Bv I ?_)))))))))))))))))))))))))))))))))))))
 exact fun _ hh=>⟨(v2,y),rfl,⟨hbh,hk,hy⟩,hh⟩
theorem cwr (h:x.Ok B) (hB:B+1<=60000) {t:Int} (ht:tkB t=true) (bH bt:Nat) (vT vO vE:Value) (sq pk:Int) (ev:List Evt) (hev:ev.length<=60000) (b nx bw br:Nat) (hnx:nx<=1000) (vo:Value) (ops:List Opn) {m:Ms} {v v2:Wv} {m3:Hm} {B3:Nat} (hmay:x.hm.may t=true) (hW:WS x B t m sq v v2 false m3 B3) (hen:decide (v2.a=5)=false):Con prog 39 [ptV bH,.int .i64 t,ptV b] (fun _=>True) (HSE bH (ptV x.bh) bt vT vO vE sq pk::Az vE 71 Evt.enc ev::CLE b vo nx [.pointer none,ptV bw]::Az vo 43 Opn.enc ops::((Wv.H v t m bw br)++x.H)) (fun y:Nat×HQ=>.tuple #[]) (fun y=>y.2.bh=x.bh/\y.2.Ok B3/\y.2.hm=m3) (fun y=>HSE bH (ptV x.bh) bt vT vO vE sq pk::Az vE 71 Evt.enc ev::CLE b vo (nx) [.pointer none,ptV bw]::Az vo 43 Opn.enc ops::((Wv.H v2 t m bw y.1)++y.2.H)):=by
 intro w hE hH
 refine Ey func39 I hH ?_
 refine Al (Cs I (Lm I (Lc I (Lfa Db I GB I (Lo I9 2 I (Lq I (DR I Mc I I) (Ak I (Sb 15 false I (I) (Ab I (Cs I (Lm I (Lc I (Lfa Db I F1 I (Lo Md 2 I (Lq I (DR I Sd I I) (Ak I (Sb 45 true I (I) (Ai I (Ag (Do8 (rg 20) 2325054375 (fun w2=>(HSE bH (ptV x.bh) bt vT vO vE sq pk).at w2/\(CLE b vo nx [.pointer none,ptV bw]).at w2) I St.drawn (H2 0 2 I) (Dm I (Dc I (Dfa Db I F1 I ?_)))))))))))))))))))))))
 refine Dq I (Ao I Md I (fun _ h=>h.2) I) (Dm I (Dc I (Dfa Co I Z47 I (Dq I (Ao I G47 I (fun _ h=>h.1) I) (Dm I (Dc I (Dfa Co I Z41 I (Dq I (Ao I G41 I (fun _ h=>h.1) I) (d_e I ?_)))))))))
 have hs:=VS h ht hmay bw br m sq hW
 rw[hen] at hs
 refine Ee [_,_,_,_] hs I call80 Tt ?_
 rintro y ⟨hbh,hk,hy⟩
 refine Pw (St _ _ (_::_::_::_::((Wv.H v2 t m bw y.1)++HQ.H y.2))) ?_
 refine Aj (H2 0 2 I) (Dm I (Dq I (Qx I) (Dq I (Qx I) (Dq I (Qx I) (Das I (Das I (d_t I (e_q I I (AE I I) (AK (Ks (Cs I (Lm I (Nk (Ab I (Ae (Kt (Cs I (Lm I (Nk (Ab I (Ae (Aw (Bl ?_)))))))))))))))))))))))
 refine Bv I ?_
 exact fun _ hh=>⟨y,rfl,⟨hbh,hk,hy⟩,hh⟩
theorem eG (h:x.Ok B) (hB:B+1<=60000) {t:Int} (ht:tkB t=true) (bH bt:Nat) (vT vO vE:Value) (sq pk:Int) (ev:List Evt) (hev:ev.length<=60000) (b nx bw br:Nat) (hnx:nx<=1000) (vo:Value) (ops:List Opn) {m:Ms} {v v2:Wv} {m3:Hm} {B3:Nat} (hmay:x.hm.may t=true) (hW:WS x B t m sq v v2 false m3 B3) (hen:decide (v2.a=5)=true):Con prog 39 [ptV bH,.int .i64 t,ptV b] (fun _=>True) (HSE bH (ptV x.bh) bt vT vO vE sq pk::Az vE 71 Evt.enc ev::CLE b vo nx [.pointer none,ptV bw]::Az vo 43 Opn.enc ops::((Wv.H v t m bw br)++x.H)) (fun r:Value×HQ=>.tuple #[]) (fun r=>r.2.bh=x.bh/\r.2.Ok B3/\r.2.hm=m3) (fun r=>HSE bH (ptV x.bh) bt vT vO r.1 sq pk::Az r.1 71 Evt.enc (ev++[⟨t,(nx:Int),true,(⟨v2.e,false,kv0 16⟩:Ans)⟩])::CLE b vo (nx+1) [.pointer none,.pointer none]::Az vo 43 Opn.enc ops::r.2.H):=by
 intro w hE hH
 refine Ey func39 I hH ?_
 refine Al (Cs I (Lm I (Lc I (Lfa Db I GB I (Lo I9 2 I (Lq I (DR I Mc I I) (Ak I (Sb 15 false I (I) (Ab I (Cs I (Lm I (Lc I (Lfa Db I F1 I (Lo Md 2 I (Lq I (DR I Sd I I) (Ak I (Sb 45 true I (I) (Ai I (Ag (Do8 (rg 20) 2325054375 (fun w2=>(HSE bH (ptV x.bh) bt vT vO vE sq pk).at w2/\(CLE b vo nx [.pointer none,ptV bw]).at w2) I St.drawn (H2 0 2 I) (Dm I (Dc I (Dfa Db I F1 I ?_)))))))))))))))))))))))
 refine Dq I (Ao I Md I (fun _ h=>h.2) I) (Dm I (Dc I (Dfa Co I Z47 I (Dq I (Ao I G47 I (fun _ h=>h.1) I) (Dm I (Dc I (Dfa Co I Z41 I (Dq I (Ao I G41 I (fun _ h=>h.1) I) (d_e I ?_)))))))))
 have hs:=VS h ht hmay bw br m sq hW
 rw[hen] at hs
 refine Ee [_,_,_,_] hs I call80 Tt ?_
 rintro y ⟨hbh,hk,hy⟩
 refine Pw (St _ _ (_::_::_::_::((Wv.H v2 t m bw y.1)++HQ.H y.2))) ?_
 refine Aj (H2 0 2 I) (Dm I (Dq I (Qx I) (Dq I (Qx I) (Dq I (Qx I) (Das I (Das I (d_t I (e_q I I (AE I I) (AK (Ks (Cs I (Lm I (Nk (Ab I (Ae (Kt (Cs I (Lm I (Nk (Ai I (Cr I (Lm I (Lm I ?_)))))))))))))))))))))))
 refine Lm I (Lm I (Lq I (AN (Ans.c (⟨v2.e,false,kv0 16⟩:Ans)) I I (fun w=>by kernel_rfl)) (l_e I (BL (FI bH bt (ptV x.bh) vT vO vE sq pk ev hev b nx hnx t vo _ _ (⟨v2.e,false,kv0 16⟩:Ans)) I I I call79 I Tt (fun v3 _=>AB (Aw (Bl (Bv I ?_))))))))
 exact fun _ hh=>⟨(v3,y.2),rfl,⟨hbh,hk,hy⟩,VY hh⟩
theorem dG (h:x.Ok B) (hB:B+1<=60000) {t:Int} (ht:tkB t=true) (bH bt:Nat) (vT vO vE:Value) (sq pk:Int) (ev:List Evt) (hev:ev.length<=60000) (b nx bw br:Nat) (hnx:nx<=1000) (vo:Value) (ops:List Opn) {m:Ms} {v v2:Wv} {m3:Hm} {B3:Nat} (hmay:x.hm.may t=true) (hW:WS x B t m sq v v2 true m3 B3) (hen:decide (v2.a=5)=true):Con prog 39 [ptV bH,.int .i64 t,ptV b] (fun _=>True) (HSE bH (ptV x.bh) bt vT vO vE sq pk::Az vE 71 Evt.enc ev::CLE b vo nx [.pointer none,ptV bw]::Az vo 43 Opn.enc ops::((Wv.H v t m bw br)++x.H)) (fun r:Value×HQ=>.tuple #[]) (fun r=>r.2.bh=x.bh/\r.2.Ok B3/\r.2.hm=m3) (fun r=>HSE bH (ptV x.bh) bt vT vO r.1 (IntKind.u64.wrap (sq+1)) pk::Az r.1 71 Evt.enc (ev++[⟨t,(nx:Int),true,(⟨v2.e,false,kv0 16⟩:Ans)⟩])::CLE b vo (nx+1) [.pointer none,.pointer none]::Az vo 43 Opn.enc ops::r.2.H):=by
 intro w hE hH
 refine Ey func39 I hH ?_
 refine Al (Cs I (Lm I (Lc I (Lfa Db I GB I (Lo I9 2 I (Lq I (DR I Mc I I) (Ak I (Sb 15 false I (I) (Ab I (Cs I (Lm I (Lc I (Lfa Db I F1 I (Lo Md 2 I (Lq I (DR I Sd I I) (Ak I (Sb 45 true I (I) (Ai I (Ag (Do8 (rg 20) 2325054375 (fun w2=>(HSE bH (ptV x.bh) bt vT vO vE sq pk).at w2/\(CLE b vo nx [.pointer none,ptV bw]).at w2) I St.drawn (H2 0 2 I) (Dm I (Dc I (Dfa Db I F1 I ?_)))))))))))))))))))))))
 refine Dq I (Ao I Md I (fun _ h=>h.2) I) (Dm I (Dc I (Dfa Co I Z47 I (Dq I (Ao I G47 I (fun _ h=>h.1) I) (Dm I (Dc I (Dfa Co I Z41 I (Dq I (Ao I G41 I (fun _ h=>h.1) I) (d_e I ?_)))))))))
 have hs:=VS h ht hmay bw br m sq hW
 rw[hen] at hs
 refine Ee [_,_,_,_] hs I call80 Tt ?_
 rintro y ⟨hbh,hk,hy⟩
 refine Pw (St _ _ (_::_::_::_::((Wv.H v2 t m bw y.1)++HQ.H y.2))) ?_
 refine Aj (H2 0 2 I) (Dm I (Dq I (Qx I) (Dq I (Qx I) (Dq I (Qx I) (Das I (Das I (d_t I (e_q I I (AE I I) (AK (Ks (Cs I (Lm I (Nk (Ai I (Cr I (Lm I (Lc I (Lfa Co I Z41 I (Lo G41 0 I (Lq I (T3 I I I) (Lc I (Lfa Co I Z41 I (l_e I ?_)))))))))))))))))))))))
 refine AF I I Z41 I I I (iy I) (Ce [ptV x.bh,ptV bt,vT,vO,vE,.int .u64 (IntKind.u64.wrap (sq+1)),.int .i64 pk] I (Nk (Cs I (Lm I (Nk (Ai I (Cr I (Lm I (Lm I (Lm I (Lm I (Lq I (AN (Ans.c (⟨v2.e,false,kv0 16⟩:Ans)) I I (fun w=>by kernel_rfl)) (l_e I (BL (FI bH bt (ptV x.bh) vT vO vE (IntKind.u64.wrap (sq+1)) pk ev hev b nx hnx t vo _ _ (⟨v2.e,false,kv0 16⟩:Ans)) I I I call79 I Tt (fun v3 _=>AB (Aw (Bl (Bv I ?_))))))))))))))))))
 exact fun _ hh=>⟨(v3,y.2),rfl,⟨hbh,hk,hy⟩,VY hh⟩
theorem eH (bH bt:Nat) (vT vO vE:Value) (sq pk:Int) (ev:List Evt) (hev:ev.length<=59999) (b nx:Nat) (hnx:nx<=1000) (vo:Value) (ops:List Opn) (t:Int) {o:Opn} (hop:ops[nx]?=some o) (hol:ops.length<=1000) (hk9:o.key.size<=9223372036854775807) (hkd:o.kind=1\/o.kind=2\/o.kind=3\/o.kind=4):Con prog 39 [ptV bH,.int .i64 t,ptV b] (fun _=>True) (HSE bH (ptV x.bh) bt vT vO vE sq pk::Az vE 71 Evt.enc ev::CLE b vo nx [.pointer none,.pointer none]::Az vo 43 Opn.enc ops::x.H) (fun r:Value×Nat=>.tuple #[]) (fun _=>True) (fun r=>HSE bH (ptV x.bh) bt vT vO r.1 sq pk::Az r.1 71 Evt.enc (ev++(bgR t nx o).2.1)::CLE b vo (bgR t nx o).1 (((bgR t nx o).2.2 r.2).1)::Az vo 43 Opn.enc ops::(((bgR t nx o).2.2 r.2).2++x.H)):=by
 intro w hE hH
 refine Ey func39 I hH ?_
 refine Al (Cs I (Lm I (Lc I (Lfa Db I GB I (Lo I9 2 I (Lq I (DR I Mc I I) (Ak I (Sb 15 false I (I) (Ab I (Cs I (Lm I (Lc I (Lfa Db I F1 I (Lo Md 2 I (Lq I (DR I Sd I I) (Ak I (Sb 45 false I (I) (Ab I (Cr I (Lm I (Lm I (Lm I (l_e I ?_)))))))))))))))))))))))
 refine Yt [_,_,_,_] (HQ.H x) (bB bH bt (ptV x.bh) vT vO vE sq pk ev hev b nx hnx t vo ops hop hol hk9 hkd) I I I call81 I Tt (fun r _=>AB (Aw (Bl (Bv I ?_))))
 exact fun _ hh=>⟨r,rfl,trivial,by rw[gK] at hh;exact hh⟩
end Go.Proofs.YtloldofjddbjoaaGreat
namespace Go.Proofs.YtloldofjddbjoaaGreat
open Go.Sep Go.RowKit Tryz
variable {x:HQ} {B:Nat}
abbrev FT (b:Bool) (sq:Int):Int:=if b=true then IntKind.u64.wrap (sq+1) else sq
theorem op_at {c:Cl} (h:c.nx<c.ops.length):c.ops[c.nx]?=some c.op:=by
 unfold Cl.op
 rw[ju,fD h];rfl
def Ms.num (m:Ms) (s:Int):Ms:=if h:(Lit.int .u64 s).wf=true then m.e9 s h else m
theorem Ms.num_eq (m:Ms) {s:Int} (h:(Lit.int .u64 s).wf=true):m.num s=m.e9 s h:=by unfold Ms.num;rw[dif_pos h]
def fe (t sq:Int) (L:Hm) (c:Cl):Hm×Cl×Bool×List Evt:=match c.ph with
 |.idle=>if BX c.op=true then (L,c.done,false,[evB t c,evD t c ⟨2,false,kv0 16⟩]) else (L,{c with ph:=if c.op.kind=4 then .rd (rd0 t (kOf c.op)) else .wr ⟨0,false,none,0⟩},false,[evB t c])
 |.rd r=>if (rdS L r).2.2=true then ((rdS L r).1,c.done,false,[evD t c ⟨0,(rdS L r).2.1.f,(rdS L r).2.1.v⟩]) else ((rdS L r).1,{c with ph:=.rd (rdS L r).2.1},false,[])
 |.wr v=>if (wrS t L ((mOf c.op).num sq) v).2.1.a=5 then ((wrS t L ((mOf c.op).num sq) v).1,c.done,(wrS t L ((mOf c.op).num sq) v).2.2,[evD t c ⟨(wrS t L ((mOf c.op).num sq) v).2.1.e,false,kv0 16⟩]) else ((wrS t L ((mOf c.op).num sq) v).1,{c with ph:=.wr (wrS t L ((mOf c.op).num sq) v).2.1},false,[])
def preC (t sq:Int) (L:Hm) (c:Cl):Prop:=match c.ph with
 |.idle=>c.nx<c.ops.length/\c.op.key.size<=9223372036854775807/\(c.op.kind=1\/c.op.kind=2\/c.op.kind=3\/c.op.kind=4)
 |.rd r=>r.t=t/\rdP L r
 |.wr v=>wrP t L ((mOf c.op).num sq) v
theorem WS.inn {t:Int} {m:Ms} {sq:Int} {v v2:Wv} {inn:Bool} {m3:Hm} {B3:Nat} (h:WS x B t m sq v v2 inn m3 B3) (ha:v2.a≠5):inn=false:=by
 cases h<;>first|rfl|exact absurd rfl ha
theorem OE (h:x.Ok B) (hB:B+1<=60000) {t:Int} (ht:tkB t=true) (bH bt:Nat) (vT vO vE:Value) (sq pk:Int) (ev:List Evt) (hev:ev.length<=59999) (hsq:(Lit.int .u64 sq).wf=true) (c:CC) (hol:c.m.ops.length<=1000) (hnx:c.m.nx<=1000)
 (hmay:c.m.ph.isI=false->x.hm.may t=true) (hpre:preC t sq x.hm c.m):Con prog 39 [ptV bH,.int .i64 t,ptV c.b] (fun _=>True) (HSE bH (ptV x.bh) bt vT vO vE sq pk::Az vE 71 Evt.enc ev::(c.H t++x.H)) (fun _:Value×CC×HQ=>.tuple #[])
 (fun r=>r.2.1.b=c.b/\r.2.1.m=(fe t sq x.hm c.m).2.1/\r.2.2.bh=x.bh/\r.2.2.Ok (B+1)/\r.2.2.hm=(fe t sq x.hm c.m).1)
 (fun r=>HSE bH (ptV x.bh) bt vT vO r.1 (FT (fe t sq x.hm c.m).2.2.1 sq) pk::Az r.1 71 Evt.enc (ev++(fe t sq x.hm c.m).2.2.2)::(r.2.1.H t++r.2.2.H)):=by
 obtain⟨b,vo,bw,br,⟨ops,nx,ph⟩⟩:=c
 have hev':ev.length<=60000:=by omega
 cases ph with
 |idle =>
  obtain⟨h1,hk9,hk⟩:=hpre
  have hop:=op_at h1
  have hwB:=h.mono (jT B) hB
  have hG:=eH (x:=x) bH bt vT vO vE sq pk ev hev b nx hnx vo ops t hop hol hk9 hk
  unfold fe
  dsimp only
  by_cases hT:BX (Cl.op ⟨ops,nx,.idle⟩)=true
  · rw[fO hT]
    rw[Kj hT] at hG
    exact Con.conv hG I (fun r:Value×Nat=>(r.1,(⟨b,vo,bw,br,⟨ops,nx+1,.idle⟩⟩:CC),x)) (fun r _=>⟨⟨rfl,rfl,rfl,hwB,rfl⟩,rfl⟩)
  rw[fR hT]
  have hT':=iv.2 hT
  by_cases h4:(Cl.op ⟨ops,nx,.idle⟩).kind=4
  · rw[fO h4]
    rw[VX hT' h4] at hG
    exact Con.conv hG I (fun r:Value×Nat=>(r.1,(⟨b,vo,r.2,br,⟨ops,nx,.rd (rd0 t (kOf (Cl.op ⟨ops,nx,.idle⟩)))⟩⟩:CC),x)) (fun r _=>⟨⟨rfl,rfl,rfl,hwB,rfl⟩,rfl⟩)
  · rw[fR h4]
    have hG2:bgR t nx (Cl.op ⟨ops,nx,.idle⟩)=(nx,[⟨t,(nx:Int),false,Bx⟩],fun b=>([.pointer none,ptV b],[WRE b ⟨t,mOf (Cl.op ⟨ops,nx,.idle⟩),0,false,.pointer none,0⟩])):=by
     unfold bgR;rw[fR hT,fR h4]
    rw[hG2] at hG
    exact Con.conv hG I (fun r:Value×Nat=>(r.1,(⟨b,vo,r.2,br,⟨ops,nx,.wr ⟨0,false,none,0⟩⟩⟩:CC),x)) (fun r _=>⟨⟨rfl,rfl,rfl,hwB,rfl⟩,rfl⟩)
 |rd r =>
  obtain⟨hrt,hp⟩:=hpre
  have hm:=hmay rfl
  unfold fe
  dsimp only
  cases hq:rdS x.hm r with
  |mk L2 q =>
   obtain⟨r2,en⟩:=q
   cases en
   · rw[fR (show ¬(false=true) from kA)]
     exact Con.conv (crd h hB ht bH bt vT vO vE sq pk ev hev' b nx bw br hnx vo ops hrt hm hp hq) I (fun y:HQ=>(vE,(⟨b,vo,bw,br,⟨ops,nx,.rd r2⟩⟩:CC),y)) (fun y hy=>⟨⟨rfl,rfl,hy.1,hy.2.1,hy.2.2⟩,by rw[jc];rfl⟩)
   · rw[fO rfl]
     exact Con.conv (eF h hB ht bH bt vT vO vE sq pk ev hev' b nx bw br hnx vo ops hrt hm hp hq) I (fun y:Value×HQ=>(y.1,(⟨b,vo,bw,br,⟨ops,nx+1,.idle⟩⟩:CC),y.2)) (fun y hy=>⟨⟨rfl,rfl,hy.1,hy.2.1,hy.2.2⟩,rfl⟩)
 |wr v =>
  have hm:=hmay rfl
  have hp:wrP t x.hm ((mOf (Cl.op ⟨ops,nx,.wr v⟩)).num sq) v:=hpre
  unfold fe
  dsimp only
  rw[Ms.num_eq _ hsq] at hp ⊢
  obtain⟨B2,hb2,_,hW⟩:=aZ hB hsq hp
  cases hq:wrS t x.hm ((mOf (Cl.op ⟨ops,nx,.wr v⟩)).e9 sq hsq) v with
  |mk L2 q =>
   obtain⟨v2,inn⟩:=q
   rw[hq] at hW
   have hm1:∀{y:HQ},y.Ok B2->y.Ok (B+1):=fun k=>k.mono hb2 hB
   dsimp only at hW ⊢
   by_cases h5:v2.a=5
   · rw[fO h5]
     cases inn
     · exact Con.conv (eG h hB ht bH bt vT vO vE sq pk ev hev' b nx bw br hnx vo ops hm hW (jq h5)) I (fun y:Value×HQ=>(y.1,(⟨b,vo,bw,br,⟨ops,nx+1,.idle⟩⟩:CC),y.2)) (fun y hy=>⟨⟨rfl,rfl,hy.1,hm1 hy.2.1,hy.2.2⟩,rfl⟩)
     · exact Con.conv (dG h hB ht bH bt vT vO vE sq pk ev hev' b nx bw br hnx vo ops hm hW (jq h5)) I (fun y:Value×HQ=>(y.1,(⟨b,vo,bw,br,⟨ops,nx+1,.idle⟩⟩:CC),y.2)) (fun y hy=>⟨⟨rfl,rfl,hy.1,hm1 hy.2.1,hy.2.2⟩,rfl⟩)
   · rw[fR h5]
     have hi:=hW.inn h5
     subst hi
     exact Con.conv (cwr h hB ht bH bt vT vO vE sq pk ev hev' b nx bw br hnx vo ops hm hW (jo h5)) I (fun y:Nat×HQ=>(vE,(⟨b,vo,bw,y.1,⟨ops,nx,.wr v2⟩⟩:CC),y.2)) (fun y hy=>⟨⟨rfl,rfl,hy.1,hm1 hy.2.1,hy.2.2⟩,by rw[jc];rfl⟩)
end Go.Proofs.YtloldofjddbjoaaGreat
namespace Go.Proofs.YtloldofjddbjoaaGreat.Sc
open Go.Sep Go.RowKit Tryz
variable {k off n x:Nat} {c:Int} {l:List Int}
structure Tab where
 n:Nat
 st:List Int
 wt:List Int
 pk:List Int
 worst:Int
structure Tab.Ok (m:Tab) (c:Int):Prop where
 n1:1<=m.n
 n8:m.n<=8
 st:m.st.length=m.n
 wt:m.wt.length=m.n
 pk:m.pk.length=m.n
 wt0:∀k,k<m.n->0<=m.wt.getD k 0/\m.wt.getD k 0<=c
 pk0:∀k,k<m.n->0<=m.pk.getD k 0/\m.pk.getD k 0<=c
 w0:0<=m.worst/\m.worst<=c
theorem Tab.Ok.mono {m:Tab} {d:Int} (h:m.Ok c) (hd:c<=d):m.Ok d:=⟨h.n1,h.n8,h.st,h.wt,h.pk,fun k hk=>⟨(h.wt0 k hk).1,jS (h.wt0 k hk).2 hd⟩,fun k hk=>⟨(h.pk0 k hk).1,jS (h.pk0 k hk).2 hd⟩,h.w0.1,jS h.w0.2 hd⟩
def Ix (l:List Int):List Value:=l.map (Value.int .i64)
def Hg (l:List Int):List Int:=l++List.replicate (8-l.length) 0
theorem Kk (h:l.length<=8):(Hg l).length=8:=by simp[Hg];omega
theorem Kl (h:k<l.length):(Hg l)[k]?=some (l.getD k 0):=by
 simp[Hg,fM h,ju,h]
theorem Km (h:k<l.length) (x:Int):(Hg l).set k x=Hg (l.set k x):=by
 simp[Hg,iX _ _ h]
def fh (m:Tab):List Value:=[.int .i64 m.n]++(Ix (Hg m.st)++(Ix (Hg m.wt)++(Ix (Hg m.pk)++[.int .i64 m.worst])))
theorem Kn (l:List Int):(Ix l).length=l.length:=by simp[Ix]
theorem Ko (l:List Int) (k:Nat):(Ix l)[k]?=(l[k]?).map (Value.int .i64):=by simp[Ix]
theorem Kp (l:List Int) (k:Nat) (x:Int):(Ix l).set k (.int .i64 x)=Ix (l.set k x):=by simp[Ix,il]
section
variable {m:Tab} {c:Int} (h:m.Ok c)
include h
theorem Tab.Ok.l1:(Ix (Hg m.st)).length=8:=by rw[Kn,Kk (by rw[h.st];exact h.n8)]
theorem Tab.Ok.l2:(Ix (Hg m.wt)).length=8:=by rw[Kn,Kk (by rw[h.wt];exact h.n8)]
theorem Tab.Ok.l3:(Ix (Hg m.pk)).length=8:=by rw[Kn,Kk (by rw[h.pk];exact h.n8)]
theorem Gx:(fh m).length=26:=by simp[fh,h.l1,h.l2,h.l3]
theorem V0 (hk:k<m.n) (ho:off=1+k):(fh m)[off]?=some (.int .i64 (m.st.getD k 0)):=by
 have h8:=h.n8
 have l1:=h.l1
 subst ho
 rw[fh,fP (by simp),fM (by simp;omega)]
 simp only[jx,ko]
 rw[Ko,Kl (by rw[h.st];exact hk)];rfl
theorem P4 (hk:k<m.n) (ho:off=9+k):(fh m)[off]?=some (.int .i64 (m.wt.getD k 0)):=by
 have h8:=h.n8
 have l1:=h.l1
 have l2:=h.l2
 subst ho
 rw[fh,fP (by simp;omega),fP (by simp;omega),fM (by simp;omega)]
 rw[l1,jx,show 9+k-1-8=k from by omega,Ko,Kl (by rw[h.wt];exact hk)];rfl
theorem bC (hk:k<m.n) (ho:off=17+k):(fh m)[off]?=some (.int .i64 (m.pk.getD k 0)):=by
 have h8:=h.n8
 have l1:=h.l1
 have l2:=h.l2
 have l3:=h.l3
 subst ho
 rw[fh,fP (by simp;omega),fP (by simp;omega),fP (by simp;omega),fM (by simp;omega)]
 rw[l1,l2,jx,show 17+k-1-8-8=k from by omega,Ko,Kl (by rw[h.pk];exact hk)];rfl
theorem Tg (ho:off=25):(fh m)[off]?=some (.int .i64 m.worst):=by
 have l1:=h.l1
 have l2:=h.l2
 have l3:=h.l3
 subst ho
 rw[fh,fP (by simp),fP (by simp;omega),fP (by simp;omega),fP (by simp;omega)]
 rw[l1,l2,l3];rfl
theorem bD (x:Int) (hk:k<m.n) (ho:off=1+k):(fh m).set off (.int .i64 x)=fh {m with st:=m.st.set k x}:=by
 have h8:=h.n8
 have l1:=h.l1
 subst ho
 unfold fh
 rw[iq _ _ (by simp),iX _ _ (by simp;omega)]
 simp only[jx,ko,Kp]
 rw[Km (by rw[h.st];exact hk)]
theorem P5 (x:Int) (hk:k<m.n) (ho:off=9+k):(fh m).set off (.int .i64 x)=fh {m with wt:=m.wt.set k x}:=by
 have h8:=h.n8
 have l1:=h.l1
 have l2:=h.l2
 subst ho
 unfold fh
 rw[iq _ _ (by simp;omega),iq _ _ (by simp;omega),iX _ _ (by simp;omega)]
 rw[l1,jx,show 9+k-1-8=k from by omega,Kp,Km (by rw[h.wt];exact hk)]
theorem bE (x:Int) (hk:k<m.n) (ho:off=17+k):(fh m).set off (.int .i64 x)=fh {m with pk:=m.pk.set k x}:=by
 have h8:=h.n8
 have l1:=h.l1
 have l2:=h.l2
 have l3:=h.l3
 subst ho
 unfold fh
 rw[iq _ _ (by simp;omega),iq _ _ (by simp;omega),iq _ _ (by simp;omega),iX _ _ (by simp;omega)]
 rw[l1,l2,jx,show 17+k-1-8-8=k from by omega,Kp,Km (by rw[h.pk];exact hk)]
theorem Th (x:Int) (ho:off=25):(fh m).set off (.int .i64 x)=fh {m with worst:=x}:=by
 have l1:=h.l1
 have l2:=h.l2
 have l3:=h.l3
 subst ho
 unfold fh
 rw[iq _ _ (by simp),iq _ _ (by simp;omega),iq _ _ (by simp;omega),iq _ _ (by simp;omega)]
 rw[l1,l2,l3];rfl
end
def fj (m:Tab) (i s:Int):Tab:=if 0<=i/\i<m.n/\m.st.getD i.toNat 0≠2 then {m with st:=m.st.set i.toNat s,wt:=if s=0 then m.wt else m.wt.set i.toNat 0} else m
theorem getD_set {j:Nat} {x:Int}:(l.set k x).getD j 0=if k=j/\k<l.length then x else l.getD j 0:=by
 simp only[ju,jD]
 by_cases hk:k=j
 · subst hk;by_cases hl:k<l.length<;>simp[hl]
 · simp[hk]
theorem turn_ok {m:Tab} (h:m.Ok c) (i s:Int):(fj m i s).Ok c:=by
 unfold fj
 split
 · rename_i hi
   refine⟨h.n1,h.n8,by simp[h.st],by split<;>simp[h.wt],h.pk,fun k hk=>?_,h.pk0,h.w0⟩
   have:=h.wt0 k hk
   simp only
   split
   · exact this
   · rw[getD_set];split
     · have:=h.w0;omega
     · exact this
 · exact h
theorem turn_n (m:Tab) (i s:Int):(fj m i s).n=m.n:=by unfold fj;split<;>rfl
def fg (m:Tab):List Nat:=(List.range m.n).filter (fun k=>decide (m.st.getD k 0=0))
def nints (l:List Nat):List Int:=l.map (fun k:Nat=>(k:Int))
def GL (m:Tab) (k:Nat):List Int:=nints ((List.range k).filter (fun j=>decide (m.st.getD j 0=0)))
theorem Yu (m:Tab):GL m m.n=nints (fg m):=rfl
theorem Ti {m:Tab} {k:Nat} (h:m.st.getD k 0=0):GL m k++[(k:Int)]=GL m (k+1):=by
 simp only[GL,jM,jN,nints,gL,jY,List.filter_nil,h,decide_true,gR,gB,gC]
theorem V1 {m:Tab} (h:¬m.st.getD k 0=0):GL m k=GL m (k+1):=by
 simp only[GL,jM,jN,nints,gL,jY,List.filter_nil,h,decide_false,iK,iL,gC,jc]
theorem Tj (m:Tab) (k:Nat):(GL m k).length<=k:=by
 simp only[GL,nints,gS]
 exact gF (jL _ _) (by simp)
theorem runM_lt {m:Tab} (h:k∈fg m):k<m.n:=by simp[fg] at h;exact h.1
theorem OF (m:Tab):(fg m).length<=m.n:=gF (jL _ _) (by simp)
theorem LG {l:List Nat} {x:Nat} (h:l[k]?=some x):(nints l)[k]?=some (x:Int):=by simp[nints,h]
theorem Tl (l:List Nat):(nints l).length=l.length:=by simp[nints]
def EA (told:Nat) (m:Tab) (x:Nat):Tab:=if x=told then m else {m with wt:=m.wt.set x (m.wt.getD x 0+1),worst:=if m.wt.getD x 0+1>m.worst then m.wt.getD x 0+1 else m.worst}
theorem RA {m:Tab} (h:m.Ok c) {x:Nat} (hx:x<m.n) (told:Nat):(EA told m x).Ok (c+1):=by
 unfold EA
 split
 · exact h.mono (by omega)
 · have hw:=h.wt0 x hx
   have h0:=h.w0
   refine⟨h.n1,h.n8,h.st,by simp[h.wt],h.pk,fun k hk=>?_,fun k hk=>?_,?_⟩
   · have:=h.wt0 k hk
     simp only[getD_set]
     split<;>omega
   · have:=h.pk0 k hk;simp only;omega
   · simp only;split<;>omega
theorem V2 (told:Nat) (m:Tab) (x:Nat):(EA told m x).n=m.n:=by unfold EA;split<;>rfl
theorem Yv (told:Nat) (m:Tab) (x:Nat):(EA told m x).st=m.st:=by unfold EA;split<;>rfl
theorem Yw (told:Nat) (m:Tab) (x:Nat):(EA told m x).pk=m.pk:=by unfold EA;split<;>rfl
def stepsM (told:Nat) (m:Tab) (l:List Nat):Tab:=l.foldl (EA told) m
theorem HT (told:Nat):∀(l:List Nat) (m:Tab),(stepsM told m l).n=m.n
 |[],m=>rfl
 |x::l,m=>(HT told l (EA told m x)).trans (V2 told m x)
theorem steps_st (told:Nat):∀(l:List Nat) (m:Tab),(stepsM told m l).st=m.st
 |[],m=>rfl
 |x::l,m=>(steps_st told l (EA told m x)).trans (Yv told m x)
theorem V3 (told:Nat):∀(l:List Nat) (m:Tab),(stepsM told m l).pk=m.pk
 |[],m=>rfl
 |x::l,m=>(V3 told l (EA told m x)).trans (Yw told m x)
theorem HU (told:Nat):∀(l:List Nat) {m:Tab} {c:Int},m.Ok c->(∀x∈l,x<m.n)->(stepsM told m l).Ok (c+l.length)
 |[],m,c,h,hl=>by simpa [stepsM] using h
 |x::l,m,c,h,hl=>by
  have h1:=RA h (hl x (iG ..)) told
  have:=HU told l h1 (fun y hy=>by rw[V2];exact hl y (iR _ hy))
  exact this.mono (by simp;omega)
theorem P6 (told:Nat) (m:Tab) (l:List Nat) (x:Nat):stepsM told m (l++[x])=EA told (stepsM told m l) x:=by simp[stepsM]
theorem P7 {l:List Nat} {i:Nat} (h:l[i]?=some x):l.take (i+1)=l.take i++[x]:=by
 have:=(gl.1 h)
 rw[ir this.1,this.2]
def HW (m:Tab) (told:Nat):Tab:={m with wt:=m.wt.set told 0,pk:=m.pk.set told (m.pk.getD told 0+1)}
theorem Yx {m:Tab} (h:m.Ok c) {told:Nat} (ht:told<m.n):(HW m told).Ok (c+1):=by
 have h0:=h.w0
 have hp:=h.pk0 told ht
 refine⟨h.n1,h.n8,h.st,by simp[HW,h.wt],by simp[HW,h.pk],fun k hk=>?_,fun k hk=>?_,by simp only[HW];omega⟩
 · have:=h.wt0 k hk
   simp only[HW,getD_set];split<;>omega
 · have:=h.pk0 k hk
   simp only[HW,getD_set];split<;>omega
def whoM (m:Tab) (p:Int):Nat:=(fg m).getD (p%((fg m).length:Int)).toNat 0
def fc (m:Tab) (p:Int):Tab:=if fg m=[] then m else HW (stepsM (whoM m p) m (fg m)) (whoM m p)
theorem P8 {m:Tab} (p:Int) (h:fg m≠[]):(p%((fg m).length:Int)).toNat<(fg m).length:=by
 have hl:0<(fg m).length:=ji.2 h
 have h1:=Int.emod_nonneg p (show ((fg m).length:Int)≠0 by omega)
 have h2:=Int.emod_lt_of_pos p (show 0<((fg m).length:Int) by omega)
 omega
theorem RB {m:Tab} (p:Int) (h:fg m≠[]):(fg m)[(p%((fg m).length:Int)).toNat]?=some (whoM m p):=by
 have:=P8 p h
 simp[whoM,ju,this]
theorem who_mem {m:Tab} (p:Int) (h:fg m≠[]):whoM m p∈fg m:=hY (RB p h)
theorem pick_ok {m:Tab} (h:m.Ok c) (p:Int):(fc m p).Ok (c+9):=by
 unfold fc
 split
 · exact h.mono (by omega)
 · rename_i hr
   have h1:=HU (whoM m p) (fg m) h (fun x hx=>runM_lt hx)
   have h2:=Yx h1 (told:=whoM m p) (by rw[HT];exact runM_lt (who_mem p hr))
   have h3:=OF m
   have h8:=h.n8
   exact h2.mono (by omega)
theorem pick_n (m:Tab) (p:Int):(fc m p).n=m.n:=by
 unfold fc;split
 · rfl
 · exact HT _ _ _
theorem Tm {p:Int} {n:Int} (hn:0<n):(p.tmod n+n)%n=p%n:=by
 rw[Int.add_emod_right]
 by_cases h:0<=p
 · rw[Int.tmod_eq_emod_of_nonneg h,Int.emod_emod_of_dvd _ (Int.dvd_refl _)]
 · have h3:=Int.mul_tdiv_add_tmod p n
   rw[show p.tmod n=p+n*(-(p.tdiv n)) from by rw[Int.mul_neg];omega,Int.add_mul_emod_self_left]
section
variable {m:Tab} {t k i x:Nat} (ht:(fg m)[k]?=some t) (hx:(fg m)[i]?=some x)
include ht hx
end
def newM (n:Nat):Tab:=⟨n,List.replicate n 0,List.replicate n 0,List.replicate n 0,0⟩
theorem new_ok (h1:1<=n) (h8:n<=8):(newM n).Ok 0:=by
 have hg:∀k,(List.replicate n (0:Int)).getD k 0=0:=fun k=>by
  simp only[ju,hM];split<;>rfl
 exact⟨h1,h8,by simp[newM],by simp[newM],by simp[newM],fun k _=>by simp only[newM];rw[hg];omega,fun k _=>by simp only[newM];rw[hg];omega,by simp[newM]⟩
theorem V4 (h:n<=8):Hg (List.replicate n 0)=List.replicate 8 0:=by
 unfold Hg
 rw[jB,jG,show n+(8-n)=8 from by omega]
theorem Yy {n:Nat} (h:n<=8):fh (newM n)=.int .i64 (n:Int)::List.replicate 25 (.int .i64 0):=by
 unfold fh newM
 simp only[V4 h]
 rfl
end Go.Proofs.YtloldofjddbjoaaGreat.Sc
namespace Go.Proofs.YtloldofjddbjoaaGreat.Sc
open Go.Sep Go.RowKit Tryz
variable {c:Int}
theorem Jp {m:Tab} (hm:m.Ok c) (b:Nat) (i:Int):Con prog 151 [.pointer (some ⟨b,0,none⟩),.int .i64 i] (fun _=>True) [Ad b 171 (fh m)] (fun _:Unit=>.bool (decide (0<=i/\i<m.n))) (fun _=>True) (fun _=>[Ad b 171 (fh m)]):=by
 intro w hE hH
 refine enter (n:=15) (vs:=[.pointer (some ⟨b,0,none⟩),.int .i64 i]) (St w [b] [Ad b 171 (fh m)]) func151 I I I (St.init hH) ?_
 refine Cs I (Ak I (Cs I (Lm I (Lq I (Qg I) (Lm I ?_)))))
 refine CB 7 I (fun h=>?_) (fun h=>?_)
 · refine Lm I (Lm I (Lc I (Lfa GW I Z3 I (Lo G3 0 I (Lq I (Ql I) (Lq I (Qy I) (Ak I (Af (An I I ?_)))))))))
   exact fun _ h'=>⟨(),congrArg (fun z=>Ending.returned (Value.bool z)) (by simp[h]),trivial,h'⟩
 · refine Lx I (Lx I (Lx I (Lx I (Lx I (Lx I (Lq I (Qz I) (Ak I (Af (An I I ?_)))))))))
   exact fun _ h'=>⟨(),congrArg (fun z=>Ending.returned (Value.bool z)) (by simp;omega),trivial,h'⟩
theorem Iy {m:Tab} (hm:m.Ok c) (b:Nat) (i s:Int):Con prog 150 [.pointer (some ⟨b,0,none⟩),.int .i64 i,.int .i64 s] (fun _=>True) [Ad b 171 (fh m)] (fun _:Unit=>.tuple #[]) (fun _=>True) (fun _=>[Ad b 171 (fh (fj m i s))]):=by
 intro w hE hH
 by_cases hi:0<=i/\i<m.n
 · obtain⟨k,rfl⟩:=fy hi.1
   have hk:k<m.n:=by omega
   have h8:=hm.n8
   refine enter (n:=32) (vs:=[.pointer (some ⟨b,0,none⟩),.int .i64 k,.int .i64 s]) (St w [b] [Ad b 171 (fh m)]) func150 I I I (St.init hH) ?_
   refine Ag (Cs I (Lm I (Lm I (l_e I (Bg (Jp hm b k) I I I call151 I Tt (fun _ _=>Lq I (Qt I) (Lm I (Sb 10 false I (by simp;omega) (Lm I (Lm I (Lc I (Lfa GW I sizeOf168 I (Lq I (AZ k I underlying168 sizeOf167 I I I (by omega)) (Lq I (Ao I isAgg167 I (Hat 0 I) (V0 hm (k:=k) (by omega) (by simp))) (Lq I (Qe I) (Lq I (Qz I) (Nk ?_)))))))))))))))))
   refine CB 18 I (fun h=>?_) (fun h=>?_)
   · have hT:fj m k s=m:=by unfold fj;rw[fR (fun hh=>hh.2.2 h)]
     refine Ai I (Af (Aa (Bv I ?_)))
     exact fun _ h=>⟨(),rfl,trivial,by rw[hT];exact h⟩
   · refine Ab I (Ae (Kt (Cs I (Lm I (Lm I (Lm I (Lc I (Lfa GW I sizeOf168 I (Lq I (AZ k I underlying168 sizeOf167 I I I (by omega)) (l_e I (AF I I sizeOf167 I I I (by rw[Gx hm];show 0+1+k*1<26;omega) (Ay (bD hm s (k:=k) (by omega) (by simp)) (Nk (Cs I (Lm I (Lq I (Qn I) (Nk ?_)))))))))))))))))
     refine CB 26 I (fun h2=>?_) (fun h2=>?_)
     · have hm1:Tab.Ok {m with st:=m.st.set k s} c:=⟨hm.n1,hm.n8,by simp[hm.st],hm.wt,hm.pk,hm.wt0,hm.pk0,hm.w0⟩
       have hT:fj m k s={m with st:=m.st.set k s,wt:=m.wt.set k 0}:=by unfold fj;rw[fO ⟨hi.1,hi.2,by simpa using h⟩,fR h2];rfl
       refine Ai I (Cr I (Lm I (Lm I (Lc I (Lfa GW I Nm I (Lq I (AZ k I Nn Z3 I I I (by omega)) (l_e I (AF I I Z3 I I I (by rw[Gx hm1];show 0+9+k*1<26;omega) (Ay (P5 hm1 0 (k:=k) hk (by simp)) (AB (Bl (Bv I ?_))))))))))))
       exact fun _ h=>⟨(),rfl,trivial,by rw[hT];exact h⟩
     · have hT:fj m k s={m with st:=m.st.set k s}:=by unfold fj;rw[fO ⟨hi.1,hi.2,by simpa using h⟩,fO h2];rfl
       refine Ab I (Ae (Bl (Bv I ?_)))
       exact fun _ h=>⟨(),rfl,trivial,by rw[hT];exact h⟩
 · have hT:fj m i s=m:=by unfold fj;rw[fR (fun hh=>hi ⟨hh.1,hh.2.1⟩)]
   refine enter (n:=32) (vs:=[.pointer (some ⟨b,0,none⟩),.int .i64 i,.int .i64 s]) (St w [b] [Ad b 171 (fh m)]) func150 I I I (St.init hH) ?_
   refine Ag (Cs I (Lm I (Lm I (l_e I (Bg (Jp hm b i) I I I call151 I Tt (fun _ _=>Lq I (Qt I) (Lm I (Sb 10 true I (by simp only[iF,im];exact hi) (Lx I (Lx I (Lx I (Lx I (Lx I (Lx I (Lx I (Lq I (Qy I) (Nk (Ai I (Af (Aa (Bv I ?_)))))))))))))))))))))
   exact fun _ h=>⟨(),rfl,trivial,by rw[hT];exact h⟩
theorem block_spec {m:Tab} (hm:m.Ok c) (b:Nat) (i:Int):Con prog 94 [.pointer (some ⟨b,0,none⟩),.int .i64 i] (fun _=>True) [Ad b 171 (fh m)] (fun _:Unit=>.tuple #[]) (fun _=>True) (fun _=>[Ad b 171 (fh (fj m i 1))]):=by
 intro w hE hH
 refine enter (n:=7) (vs:=[.pointer (some ⟨b,0,none⟩),.int .i64 i]) (St w [b] [Ad b 171 (fh m)]) func94 I I I (St.init hH) ?_
 refine Cr I (Lm I (Lm I (l_e I (Bg (Iy hm b i 1) I I I call150 I Tt (fun _ _=>AB (Bl (Bv I ?_)))))))
 exact fun _ h=>⟨(),rfl,trivial,h⟩
theorem wake_spec {m:Tab} (hm:m.Ok c) (b:Nat) (i:Int):Con prog 92 [.pointer (some ⟨b,0,none⟩),.int .i64 i] (fun _=>True) [Ad b 171 (fh m)] (fun _:Unit=>.tuple #[]) (fun _=>True) (fun _=>[Ad b 171 (fh (fj m i 0))]):=by
 intro w hE hH
 refine enter (n:=7) (vs:=[.pointer (some ⟨b,0,none⟩),.int .i64 i]) (St w [b] [Ad b 171 (fh m)]) func92 I I I (St.init hH) ?_
 refine Cr I (Lm I (Lm I (l_e I (Bg (Iy hm b i 0) I I I call150 I Tt (fun _ _=>AB (Bl (Bv I ?_)))))))
 exact fun _ h=>⟨(),rfl,trivial,h⟩
theorem end_spec {m:Tab} (hm:m.Ok c) (b:Nat) (i:Int):Con prog 93 [.pointer (some ⟨b,0,none⟩),.int .i64 i] (fun _=>True) [Ad b 171 (fh m)] (fun _:Unit=>.tuple #[]) (fun _=>True) (fun _=>[Ad b 171 (fh (fj m i 2))]):=by
 intro w hE hH
 refine enter (n:=7) (vs:=[.pointer (some ⟨b,0,none⟩),.int .i64 i]) (St w [b] [Ad b 171 (fh m)]) func93 I I I (St.init hH) ?_
 refine Cr I (Lm I (Lm I (l_e I (Bg (Iy hm b i 2) I I I call150 I Tt (fun _ _=>AB (Bl (Bv I ?_)))))))
 exact fun _ h=>⟨(),rfl,trivial,h⟩
theorem wait_spec {m:Tab} (hm:m.Ok c) (b:Nat) (i:Int):Con prog 95 [.pointer (some ⟨b,0,none⟩),.int .i64 i] (fun _=>True) [Ad b 171 (fh m)] (fun _:Unit=>.int .i64 (if 0<=i/\i<m.n then m.wt.getD i.toNat 0 else 0)) (fun _=>True) (fun _=>[Ad b 171 (fh m)]):=by
 intro w hE hH
 by_cases hi:0<=i/\i<m.n
 · obtain⟨k,rfl⟩:=fy hi.1
   have hk:k<m.n:=by omega
   have h8:=hm.n8
   refine enter (n:=15) (vs:=[.pointer (some ⟨b,0,none⟩),.int .i64 k]) (St w [b] [Ad b 171 (fh m)]) func95 I I I (St.init hH) ?_
   refine Cs I (Ak I (Ag (Cs I (Lm I (Lm I (l_e I (Bg (Jp hm b k) I I I call151 I Tt (fun _ _=>Lq I (Qt I) (Nk (Sb 8 false I (by simp;omega) (Ab I (Ae (Kt (Cs I (Lm I (Lm I (Lc I (Lfa GW I Nm I (Lq I (AZ k I Nn Z3 I I I (by omega)) (Lq I (Ao I G3 I (Hat 0 I) (P4 hm (k:=k) (by omega) (by simp))) (Ak I (Af (An I I ?_)))))))))))))))))))))))
   exact fun _ h=>⟨(),by rw[fO hi];rfl,trivial,h⟩
 · refine enter (n:=15) (vs:=[.pointer (some ⟨b,0,none⟩),.int .i64 i]) (St w [b] [Ad b 171 (fh m)]) func95 I I I (St.init hH) ?_
   refine Cs I (Ak I (Ag (Cs I (Lm I (Lm I (l_e I (Bg (Jp hm b i) I I I call151 I Tt (fun _ _=>Lq I (Qt I) (Nk (Sb 8 true I (by simp only[iF,im];exact hi) (Ai I (Cs I (Ak I (Af (Aa (An I I ?_))))))))))))))))
   exact fun _ h=>⟨(),by rw[fR hi],trivial,h⟩
theorem runnable_spec {m:Tab} (hm:m.Ok c) (b:Nat):Con prog 76 [.pointer (some ⟨b,0,none⟩)] (fun _=>True) [Ad b 171 (fh m)] (fun v:Value=>v) (fun _=>True) (fun v=>[Az v 3 (AG .i64) (nints (fg m)),Ad b 171 (fh m)]):=by
 intro w hE hH
 have h8:=hm.n8
 refine enter (n:=28) (vs:=[.pointer (some ⟨b,0,none⟩)]) (St w [b] [Ad b 171 (fh m)]) func76 I I I (St.init hH) ?_
 refine Cs I (Ak I (Cs I (Ak I (Ag (Ag (Dn (rg 10) 0 _ I St.drawn Ih (Dm I (Dc I (Dfa GW I sizeOf168 I (Dm I (Dc I (Dfa GW I Z3 I (Dq I (Ao I G3 I (Hat 0 I) I) (Dq I (Eh m.n I underlying168 sizeOf167 I I I (by omega)) (Dq I (Ew I underlying224 I) (Dm I (AK (Kt (Al (row0 3 (AG .i64) none ?_))))))))))))))))))))
 refine CN (fun (k:Nat) (v:Value)=>[(3,v),(13,.slice (some ⟨b,0+1,none⟩) m.n 8),(14,.int .i64 (m.n:Int)),(15,.int .i64 (k:Int))]) (fun (k:Nat) (v:Value)=>St w [b] [Az v 3 (AG .i64) (GL m k),Ad b 171 (fh m)]) (fun (k:Nat) (v:Value)=>k<=m.n) (fun (k:Nat) (v:Value)=>m.n-k) (0) (.slice none 0 0) (gb _) (Si I) Ih (fun k v hk=>Cs I (Lq I (Ql I) (Ns ?_)))
 refine CB 16 I (fun h=>?_) (fun h=>?_)
 · have hlen:=Tj m k
   refine Ai I (Ae (Ks (Al (Cs I (Lm I (Lq I (FX k I underlying224 sizeOf167 I I I (by omega)) (Lq I (Ao I isAgg167 I (Hat 1 I) (V0 hm (k:=k) (by omega) (by simp))) (Las I (Ak I (Cs I (Lm I (Lq I (Qe I) (Nk ?_)))))))))))))
   refine CB 21 I (fun h2=>?_) (fun h2=>?_)
   · refine Ai I (Cr I (Lm I (Lm I (l_e I (Ax (sz:=1) [.tmp 23] I I I I I U22 Z3 I zeroValue3 I (fun b2=>AM (l_e I (Ap U22 U22 Ez I (fun _ h=>AW (h.at 1 I) (AG .i64) [(k:Int)] I I) (by simp only[fL,fv,jn];omega) (fun v2=>Bo (Ti h2) (AM (Av (Las I (AB (Aw (Kt (Cr I (Lq I (Qi I (by omega)) (Lm I (AB ?_)))))))))))))))))))
     exact AD ((k+1,v2)) (by dsimp only;omega) (by dsimp only;omega) (Si I) (fun _ h=>h)
   · refine Ab I (Ae (Aw (Kt (Cr I (Lq I (Qi I (by omega)) (Lm I (AB ?_)))))))
     exact AD ((k+1,v)) (by dsimp only;omega) (by dsimp only;omega) (Si I) (fun _ h=>by rw[<-V1 h2];exact h)
 · have hk2:k=m.n:=by omega
   refine Ab I (AO (Ac (Ac (Ar (Kt (Cs I (Lm I (Ak I (Af (An I I ?_))))))))))
   exact fun _ h=>⟨v,rfl,trivial,by rw[hk2,Yu] at h;exact h⟩
theorem pick_spec {m:Tab} (hm:m.Ok c) (hc0:c<=1000000) (b:Nat) (p:Int):Con prog 38 [.pointer (some ⟨b,0,none⟩),.int .i64 p] (fun _=>True) [Ad b 171 (fh m)] (fun _:Unit=>.tuple #[.int .i64 (whoM m p:Int),.bool (decide (fg m≠[]))]) (fun _=>True) (fun _=>[Ad b 171 (fh (fc m p))]):=by
 intro w hE hH
 have h8:=hm.n8
 have hrl:=OF m
 have hq:=P8 (m:=m) p
 refine enter (n:=77) (vs:=[.pointer (some ⟨b,0,none⟩),.int .i64 p]) (St w [b] [Ad b 171 (fh m)]) func38 I I I (St.init hH) ?_
 refine Cs I (Las I (Ak I (Cs I (Lm I (l_e I (H7 (runnable_spec hm b) I I I call76 I Tt (fun v _=>Ak I (Cs I (Lm I (Lq I (AL I U22 I (Hrd 0 I)) (Ak I (Ag (Cs I (Lm I (Lq I (Qe I) (Nk ?_))))))))))))))))
 refine CB 16 I (fun h0=>?_) (fun h0=>?_)
 · have h00:fg m=[]:=by simpa [nints] using h0
   have hP:fc m p=m:=by unfold fc;rw[fO h00]
   refine Ai I (Cs I (Las I (Ak I (Af (Aa (Be (rs:=[.tmp 4,.tmp 5]) I I ?_))))))
   exact fun _ h=>⟨(),by simp[whoM,h00],trivial,by rw[hP];exact h.drop⟩
 · have h00:fg m≠[]:=by simpa [nints] using h0
   have hlen:0<(fg m).length:=ji.2 h00
   have hnl:(nints (fg m)).length=(fg m).length:=Tl _
   have hjl:=P8 p h00
   have hjg:=LG (RB p h00)
   have hwl:=runM_lt (who_mem p h00)
   have b1:=Int.tmod_lt_of_pos p (show (0:Int)<((nints (fg m)).length:Int) by omega)
   have b2 : -((nints (fg m)).length:Int)<p.tmod ((nints (fg m)).length:Int):=Int.lt_tmod_of_pos p (by omega)
   have hrest:=Tm (p:=p) (n:=((nints (fg m)).length:Int)) (by omega)
   have hnn:=Int.emod_nonneg p (show ((fg m).length:Int)≠0 by omega)
   have hP:fc m p=HW (stepsM (whoM m p) m (fg m)) (whoM m p):=by unfold fc;rw[fR h00]
   generalize whoM m p=t at *
   refine Ab I (Ae (Kt (Cs I (Lm I (Lm I (Lm I (Lq I (T4 I I I (by omega)) (Lm I (Lq I (Bf I I I (by omega)) (Lm I (Lq I (Bh I I I (by omega) (by omega)) (Sv' 24 (.int .i64 ((((p%((fg m).length:Int)).toNat):Nat):Int)) I (by rw[hrest,hnl,Int.toNat_of_nonneg hnn]) (Lq I (As ((p%((fg m).length:Int)).toNat) I U22 Z3 I (Hrd 0 I) I I (by omega)) (Lq I (AI ((p%((fg m).length:Int)).toNat) 0 I G3 I I (Hrd 0 I) hjg I) (Ak I (Ag (Cs I (Lm I (Lq I (AL I U22 I (Hrd 0 I)) (Lm I (Nk (Al ?_))))))))))))))))))))))
   refine Bc (fun (i:Nat)=>[(0,.pointer (some ⟨b,0,none⟩)),(8,.int .i64 (t:Int)),(27,v),(28,.int .i64 ((nints (fg m)).length:Int)),(29,.int .i64 (i:Int))]) (fun (i:Nat)=>St w [b] [Az v 3 (AG .i64) (nints (fg m)),Ad b 171 (fh (stepsM t m ((fg m).take i)))]) (fun (i:Nat)=>i<=(fg m).length) (fun (i:Nat)=>(fg m).length-i) (0) (gb _) (Si I) Ih (fun i hi=>Cs I (Lq I (Ql I) (Ns ?_)))
   refine CB 30 I (fun h1=>?_) (fun h1=>?_)
   · have hi2:i<(fg m).length:=by omega
     obtain⟨x,hg⟩:∃x,(fg m)[i]?=some x:=⟨_,fD hi2⟩
     have hg2:=LG hg
     have hx:=runM_lt (hY hg)
     have hmi:=HU t ((fg m).take i) hm (fun z hz=>runM_lt (fF hz))
     have hni:=HT t ((fg m).take i) m
     have hsn:=(congrArg (stepsM t m) (P7 hg)).trans (P6 t m _ x)
     generalize stepsM t m ((fg m).take i)=M at *
     have hwx:=hmi.wt0 x (by omega)
     have hw0:=hmi.w0
     have hxM:x<M.n:=by omega
     have hc:c+((fg m).take i).length<=4611686018427387904:=by have:=jP i (fg m);omega
     refine Ai I (Ae (Ks (Al (Cs I (Lq I (As i I U22 Z3 I (Hrd 0 I) I I (by omega)) (Lq I (AI i 0 I G3 I I (Hrd 0 I) hg2 I) (Ak I (Cs I (Lm I (Lm I (Lq I (Qn I) (Nk ?_))))))))))))
     refine CB 35 I (fun h2=>?_) (fun h2=>?_)
     · have hxt:x≠t:=by omega
       unfold EA at hsn
       rw[fR hxt] at hsn
       have hm1:Tab.Ok {M with wt:=M.wt.set x (M.wt.getD x 0+1)} (c+((fg m).take i).length+1):=by have:=RA hmi hxM t;unfold EA at this;rw[fR hxt] at this;exact⟨this.n1,this.n8,this.st,this.wt,this.pk,this.wt0,this.pk0,by simp only;omega⟩
       have hg1:(M.wt.set x (M.wt.getD x 0+1)).getD x 0=M.wt.getD x 0+1:=by rw[getD_set,fO ⟨rfl,by rw[hmi.wt];exact hxM⟩]
       refine Ai I (Ag (Dn (rg 11) 118098 _ I St.drawn Ih (Dm I (Dm I (Dc I (Dfa GW I Nm I (Dq I (AZ x I Nn Z3 I I I (by omega)) (Dq I (Ao I G3 I (Hat 1 I) (P4 hmi (k:=x) hxM (by simp))) (Dq I (Bf I I I (by omega)) (Dc I (Dfa GW I Nm I (Dq I (AZ x I Nn Z3 I I I (by omega)) (AM (d_t I (AF I I Z3 I I I (by rw[Gx hmi];show 0+9+x*1<26;omega) (Ay (P5 hmi (M.wt.getD x 0+1) (k:=x) hxM (by simp)) (AK (Kt (Dn (rg 15) 9565938 _ I St.drawn Ih (Dm I (Dm I (Dc I (Dfa GW I Z3 I ?_)))))))))))))))))))))))
       refine Dq I (Ao I G3 I (Hat 0 I) (Tg hm1 I)) (Dm I (Dm I (Dc I (Dfa GW I Nm I (Dq I (AZ x I Nn Z3 I I I (by omega)) (Dq I (Ao I G3 I (Hat 0 I) ((P4 hm1 (k:=x) hxM (by simp)).trans (by show some (Value.int .i64 ((M.wt.set x (M.wt.getD x 0+1)).getD x 0))=_;rw[hg1]))) (Dq I (cP I I I) (Dc I (Dfa GW I Z3 I (d_t I (AF I I Z3 I I I (by rw[Gx hm1];show 0+25<26;omega) (Ay (Th hm1 _ I) (AK (Aw (Kt (Cr I (Lq I (Qi I (by omega)) (Lm I (AB (AM ?_))))))))))))))))))))
       exact AD (i+1) (by omega) (by omega) (Si I) (fun _ h=>by rw[hsn];exact h)
     · have hxt:x=t:=by omega
       unfold EA at hsn
       rw[fO hxt] at hsn
       refine Ab I (Ae (Aw (Kt (Cr I (Lq I (Qi I (by omega)) (Lm I (AB ?_)))))))
       exact AD (i+1) (by omega) (by omega) (Si I) (fun _ h=>by rw[hsn];exact h)
   · have hfin:(fg m).take i=fg m:=fZ (by omega)
     have hmi:=HU t (fg m) hm (fun z hz=>runM_lt hz)
     have hni:=HT t (fg m) m
     rw[hfin]
     unfold HW at hP
     generalize stepsM t m (fg m)=M at *
     have htM:t<M.n:=by omega
     have hpt:=hmi.pk0 t htM
     have hw0:=hmi.w0
     have hm1:Tab.Ok {M with wt:=M.wt.set t 0} (c+(fg m).length):=⟨hmi.n1,hmi.n8,hmi.st,by simp[hmi.wt],hmi.pk,fun k hk=>by have:=hmi.wt0 k hk;simp only[getD_set];split<;>omega,hmi.pk0,hmi.w0⟩
     refine Ab I (AO (Ac (Ac (Ar (Kt (Cs I (Lm I (Lm I (Lc I (Lfa GW I Nm I (Lq I (AZ t I Nn Z3 I I I (by omega)) (AM (l_e I (AF I I Z3 I I I (by rw[Gx hmi];show 0+9+t*1<26;omega) (Ay (P5 hmi 0 (k:=t) htM (by simp)) (Ns (Dn (rg 11) 118098 _ I St.drawn Ih (Dm I (Dm I (Dc I (Dfa GW I Nm I (Dq I (AZ t I Nn Z3 I I I (by omega)) (Dq I (Ao I G3 I (Hat 0 I) (bC hm1 (k:=t) htM (by simp))) ?_)))))))))))))))))))))))
     refine Dq I (Bf I I I (by show _<=M.pk.getD t 0+1/\M.pk.getD t 0+1<=_;omega)) (Dc I (Dfa GW I Nm I (Dq I (AZ t I Nn Z3 I I I (by omega)) (d_t I (AF I I Z3 I I I (by rw[Gx hm1];show 0+17+t*1<26;omega) (Ay (bE hm1 _ (k:=t) htM (by simp)) (AK (Kt (Cs I (Lm I (Las I (Ak I (Af (Be (rs:=[.tmp 4,.tmp 5]) I I ?_))))))))))))))
     exact fun _ h=>⟨(),by rw[show decide (fg m≠[])=true from by simpa using h00],trivial,by rw[hP];exact h.sublist (jR.2 (iQ _))⟩
theorem new_yes {n:Nat} (h1:1<=n) (h8:n<=8):Con prog 53 [.int .i64 (n:Int)] (fun _=>True) [] (fun b:Nat=>.tuple #[.pointer (some ⟨b,0,none⟩),.int .i64 0]) (fun _=>True) (fun b=>[Ad b 171 (fh (newM n))]):=by
 intro w hE hH
 refine E0 func53 I hH ?_
 refine Cs I (Las I (Ak I (Ag (Cs I (Lm I (Lq I (Ql I) (Lm I (Sf 6 I (by omega) (Lm I (Lq I (BS I I I) (Lq I (Qz I) (Nk (Sf 9 I (by omega) (Ab I (Ae (Kt (Cs I (Lm I (Lq I (AN (.int .i64 (n:Int)::List.replicate 25 (.int .i64 0)) I I (fun w=>by kernel_rfl)) (l_e I (AQ I I I I (fun b=>Ay (Yy h8).symm (Las I (Ak I (Af (Be (rs:=[.tmp 2,.tmp 3]) I I ?_))))))))))))))))))))))))))
 exact fun _ h=>⟨b,rfl,trivial,h⟩
end Go.Proofs.YtloldofjddbjoaaGreat.Sc
namespace Go.Proofs.YtloldofjddbjoaaGreat
open Go.Sep Go.RowKit Tryz
variable {B nb nf fl C i:Nat} {x:HQ} {L:Hm} {ls:List (List Opn)} {vs:List Sv} {vo va:Value}
structure GH (x:HQ) (L:Hm) (B:Nat):Prop where
 ok:x.Ok B
 hm:x.hm=L
theorem GH.mono (h:GH x L B) (hBC:B<=C) (hC:C<=60000):GH x L C:=⟨h.ok.mono hBC hC,h.hm⟩
def Hm.look (L:Hm):Nd:=match L.M.frI 0 2 with
 |some i=>(L.M.at' i).nd
 |none=>ndL
structure DA (L:Hm):Prop where
 line:L.M.line=[]
 due:Et L.look=false
 sm:L.look.Sm 50000
 us:L.s.us[0]?=some true
 bl:L.M.frI 0 2=none->∃bk,L.s.bl[0]?=some bk/\bk.l=Dz
inductive Tk where
 |c (b:Nat)
 |f (b:Nat)
 |e
def Tk.v:Tk->Value
 |.c b=>.iface 103 (ptV b)
 |.f b=>.iface 108 (.agg #[ptV b])
 |.e=>.iface 111 (.agg #[])
def Tk.enc:Enc Tk:=⟨1,fun t=>[t.v],fun _=>rfl,fun a u h=>by simp at h;subst h;cases a<;>rfl,by decide⟩
abbrev FLE (b:Nat) (t:Int):Ent:=Ad b 179 [.int .i64 t,.int .i64 1,.bool false,.bool false,.pointer none,.int .i64 0,.int .i64 0]
def CLs:Nat->List CC->List Ent
 |_,[]=>[]
 |k,c::cs=>c.H (k:Int)++CLs (k+1) cs
def CLo:Nat->Nat->List CC->List Ent
 |_,_,[]=>[]
 |k,0,_::cs=>CLs (k+1) cs
 |k,i+1,c::cs=>c.H (k:Int)++CLo (k+1) i cs
def FLs:Nat->List Nat->List Ent
 |_,[]=>[]
 |k,b::bs=>FLE b (k:Int)::FLs (k+1) bs
def FLo:Nat->Nat->List Nat->List Ent
 |_,_,[]=>[]
 |k,0,_::bs=>FLs (k+1) bs
 |k,i+1,b::bs=>FLE b (k:Int)::FLo (k+1) i bs
theorem MK:∀{cs:List CC} {k i:Nat} {c:CC},cs[i]?=some c->(CLs k cs).Perm (c.H ((k+i:Nat):Int)++CLo k i cs)
 |[],k,i,c,h=>by simp at h
 |x::cs,k,0,c,h=>by simp at h;subst h;exact jr _
 |x::cs,k,i+1,c,h=>by
  have ih:=MK (cs:=cs) (k:=k+1) (i:=i) (c:=c) (by simpa using h)
  rw[show k+1+i=k+(i+1) by omega] at ih
  exact (ih.append_left (x.H (k:Int))).trans (kl _ _ _)
theorem Zo:∀{cs:List CC} {k i:Nat} (c:CC),i<cs.length->(c.H ((k+i:Nat):Int)++CLo k i cs).Perm (CLs k (cs.set i c))
 |[],k,i,c,h=>by simp at h
 |x::cs,k,0,c,h=>jr _
 |x::cs,k,i+1,c,h=>by
  have ih:=Zo (cs:=cs) (k:=k+1) (i:=i) c (by simpa using h)
  rw[show k+1+i=k+(i+1) by omega] at ih
  exact (kl _ _ _).trans (ih.append_left (x.H (k:Int)))
theorem V5:∀{bs:List Nat} {k i:Nat} {b:Nat},bs[i]?=some b->(FLs k bs).Perm (FLE b ((k+i:Nat):Int)::FLo k i bs)
 |[],k,i,c,h=>by simp at h
 |x::cs,k,0,c,h=>by simp at h;subst h;exact jr _
 |x::cs,k,i+1,c,h=>by
  have ih:=V5 (bs:=cs) (k:=k+1) (i:=i) (b:=c) (by simpa using h)
  rw[show k+1+i=k+(i+1) by omega] at ih
  exact (ih.cons (FLE x (k:Int))).trans (List.Perm.swap _ _ _)
structure HC where
 bH:Nat
 bt:Nat
 vT:Value
 vO:Value
 vE:Value
 cc:List CC
 fl:List Nat
 x:HQ
structure HM where
 L:Hm
 cs:List Cl
 nf:Nat
 sq:Int
 pk:Nat
 ev:List Evt
 T:Sc.Tab
def HC.tks (h:HC):List Tk:=h.cc.map (fun c=>Tk.c c.b)++(h.fl.map Tk.f++[Tk.e])
abbrev HC.tl (h:HC):List Ent:=CLs 0 h.cc++(FLs h.cc.length h.fl++h.x.H)
abbrev HC.H (h:HC) (m:HM):List Ent:=HSE h.bH (ptV h.x.bh) h.bt h.vT h.vO h.vE m.sq m.pk::Az h.vE 71 Evt.enc m.ev::Az h.vT 102 Tk.enc h.tks::Ad h.bt 171 (Sc.fh m.T)::h.tl
structure HOk (h:HC) (m:HM) (B:Nat):Prop where
 lh:GH h.x m.L B
 cs:h.cc.map CC.m=m.cs
 nf:h.fl.length=m.nf
 tn:m.T.n=m.cs.length+(m.nf+1)
 tok:m.T.Ok ((B*10:Nat):Int)
 n8:m.cs.length+(m.nf+1)<=8
 ol:∀c∈m.cs,c.ops.length<=1000/\c.nx<=c.ops.length/\(c.ph.isI=false->c.nx<c.ops.length)
 ev:m.ev.length<=B
 sq:1<=m.sq/\m.sq<=B+1
 pk:m.pk<=B
theorem HOk.len {h:HC} {m:HM} (k:HOk h m B):h.cc.length=m.cs.length:=by rw[<-k.cs,gS]
theorem HOk.tlen {h:HC} {m:HM} (k:HOk h m B):h.tks.length=m.T.n:=by
 unfold HC.tks
 rw[k.tn]
 simp[k.len,k.nf]
theorem HOk.at {h:HC} {m:HM} (k:HOk h m B) {i:Nat} {c:CC} (hc:h.cc[i]?=some c):m.cs[i]?=some c.m:=by rw[<-k.cs,gm,hc];rfl
theorem HOk.tk {h:HC} {m:HM} (k:HOk h m B) {i:Nat} {a:Tk} (ha:h.tks[i]?=some a):(∃c,h.cc[i]?=some c/\a=Tk.c c.b)\/(∃b,m.cs.length<=i/\h.fl[i-m.cs.length]?=some b/\a=Tk.f b)\/(m.cs.length+m.nf=i/\a=Tk.e):=by
 unfold HC.tks at ha
 by_cases h1:i<h.cc.length
 · rw[fM (by simpa using h1),gm] at ha
   obtain⟨c,hc⟩:∃c,h.cc[i]?=some c:=⟨_,fD h1⟩
   rw[hc] at ha;cases ha
   exact .inl ⟨c,hc,rfl⟩
 · rw[fP (by simp;omega),gS] at ha
   by_cases h2:i-h.cc.length<h.fl.length
   · rw[fM (by simpa using h2),gm] at ha
     obtain⟨b,hb⟩:∃b,h.fl[i-h.cc.length]?=some b:=⟨_,fD h2⟩
     rw[hb] at ha;cases ha
     rw[k.len] at hb h1
     exact .inr (.inl ⟨b,by omega,hb,rfl⟩)
   · rw[fP (by simp;omega),gS] at ha
     have h3:i-h.cc.length-h.fl.length=0:=by
      have:=(gl.1 ha).1
      simp at this;omega
     rw[h3] at ha;cases ha
     rw[k.nf] at h2 h3
     rw[k.len] at h1 h2 h3
     exact .inr (.inr ⟨by omega,rfl⟩)
theorem ML (a b c d:Ent) (C C' F X:List Ent):(a::b::c::d::((C++C')++(F++X))).Perm ((a::b::(C++X))++(c::d::(C'++F))):=by
 refine List.Perm.cons a (List.Perm.cons b ?_)
 refine List.Perm.trans ?_ (js (l₁:=c::d::(C'++F)) (l₂:=C++X))
 show (c::d::_).Perm (c::d::((C'++F)++(C++X)))
 refine List.Perm.cons c (List.Perm.cons d ?_)
 rw[gK,gK]
 exact (kl C C' (F++X)).trans ((kl C F X).append_left C')
theorem P9 (a b c d:Ent) (Y:List Ent):(a::b::c::d::Y).Perm (a::c::b::d::Y):=List.Perm.cons a (List.Perm.swap _ _ _)
theorem bF (a b c d:Ent) (C F X:List Ent):(a::b::c::d::(C++(F++X))).Perm ((a::c::X)++(b::d::(C++F))):=by
 refine (P9 a b c d _).trans (List.Perm.cons a (List.Perm.cons c ?_))
 refine List.Perm.trans ?_ (js (l₁:=b::d::(C++F)) (l₂:=X))
 show (b::d::_).Perm (b::d::((C++F)++X))
 rw[gK]
def mayC (t:Int) (L:Hm) (c:Cl):Bool:=match c.ph with
 |.idle=>!decide (c.nx=c.ops.length)
 |_=>L.may t
def mayI (m:HM) (i:Nat):Bool:=match m.cs[i]? with
 |some c=>mayC (i:Int) m.L c
 |none=>false
def stI (m:HM) (i:Nat):Int:=if mayI m i=true then 0 else match m.cs[i]? with
 |some c=>if c.ended=true then 2 else 1
 |none=>1
def fb (m:HM):Nat->Sc.Tab->Sc.Tab
 |0,T=>T
 |k+1,T=>Sc.fj (fb m k T) (k:Int) (stI m k)
theorem tellT_n (m:HM):∀(k:Nat) (T:Sc.Tab),(fb m k T).n=T.n
 |0,T=>rfl
 |k+1,T=>by show (Sc.fj _ _ _).n=_;rw[Sc.turn_n,tellT_n m k T]
theorem tellT_ok (m:HM) {c:Int}:∀(k:Nat) {T:Sc.Tab},T.Ok c->(fb m k T).Ok c
 |0,T,h=>h
 |k+1,T,h=>Sc.turn_ok (tellT_ok m k h) _ _
theorem dH (b:Nat) (t:Int):Con prog 147 [ptV b] (fun _=>True) [FLE b t] (fun _:Unit=>.bool true) (fun _=>True) (fun _=>[FLE b t]):=by
 intro w hE hH
 refine Ey func147 I hH ?_
 refine Cs I (Ak I (Cs I (Lm I (Lc I (Lfa underlying179 I Z3 I (Lo G3 0 I (Lq I (Qe I) (Lm I (Sb 8 true I (I) (Lm I (Lc I (Lfa underlying179 I Z4 I (Lo G4 0 I (Lq I (Qt I) (Lq I (Qy I) (Ak I (Af (An I I ?_))))))))))))))))))
 exact fun _ h=>⟨(),rfl,trivial,h⟩
theorem V6 (h:x.Ok B) (hQ:DA x.hm):Con prog 71 [ptV x.bh,.int .i64 0] (fun _=>True) x.H (fun s:N4=>.tuple #[.agg (⟨s,x.hm.look⟩:NV).c.toArray,.bool true]) (fun _=>True) (fun s=>Bz (⟨s,x.hm.look⟩:NV)++x.H):=by
 cases hf:x.q.M.frI 0 2 with
 |some i =>
  have e:x.hm.look=(x.q.M.at' i).nd:=by unfold Hm.look;rw[show x.hm.M.frI 0 2=some i from hf];rfl
  rw[e];exact du h hf
 |none =>
  have e:x.hm.look=ndL:=by unfold Hm.look;rw[show x.hm.M.frI 0 2=none from hf]
  obtain⟨bk,hb,hl⟩:=hQ.bl hf
  rw[e];exact aH h (k:=0) hQ.us hf hb (by rw[hl];exact Iw)
theorem eI (h:x.Ok B) (hQ:DA x.hm):Con prog 148 [ptV x.bh] (fun _=>True) (x.H) (fun _:Unit=>.bool false) (fun _=>True) (fun _=>x.H):=by
 intro w hE hH
 refine Ey func148 I hH ?_
 refine Cs I (Ak I (Cs I (Lm I (l_e I (Ee [] (V6 h hQ) I call71 Tt (fun s _=>Pw (St _ _ (_::_::_::_::HQ.H (x))) ?_))))))
 refine Lm I (Lq I (Qx I) (Lq I (Qx I) (l_e I (Au I I I zeroValue135 (fun bn=>Ce nv0.c I (l_e I (Ah I I AR I I I (NV.one _) (by show 0+5<=5;decide) (Ay (show Sep.splice _ 0 ((⟨s,x.hm.look⟩:NV)).c=((⟨s,x.hm.look⟩:NV)).c from Sep.e7 I) (Ak I (Cs I (Lm I (Lm I (Lq I (Cq ((⟨s,x.hm.look⟩:NV).c) Bs AR 0 I (I) (I)) (l_e I (E1 (Oh (⟨s,x.hm.look⟩:NV) hQ.sm) I call136 (fun _ h=>⟨h.rd 1 rfl,h.rd 2 rfl,h.rd 3 rfl,h.rd 4 rfl⟩) (fun _ _=>Sv' 13 (.bool false) I (by rw[show Et x.hm.look=false from hQ.due]) (Lq I (Qy I) (Ak I (Af (Av (Av (Av (Av (Av (An I I ?_)))))))))))))))))))))))))
 exact fun _ h=>⟨(),rfl,trivial,h⟩
theorem dI (h:GH x L B) (hQ:DA L) (bH bt:Nat) (vT vO vE:Value) (sq pk:Int) (tks:List Tk) (i:Nat) (hi:tks.length<=8) (b nx:Nat) (vo:Value) (ops:List Opn) (more:List Ent) (hk:tks[i]?=some (.c b)):Con prog 91 [ptV bH,.int .i64 (i:Int)] (fun _=>True) (HSE bH (ptV x.bh) bt vT vO vE sq pk::Az vT 102 Tk.enc tks::CLE b vo nx [.pointer none,.pointer none]::Az vo 43 Opn.enc ops::(more++x.H)) (fun _:Unit=>.bool (!decide (nx=ops.length))) (fun _=>True) (fun _=>HSE bH (ptV x.bh) bt vT vO vE sq pk::Az vT 102 Tk.enc tks::CLE b vo nx [.pointer none,.pointer none]::Az vo 43 Opn.enc ops::(more++x.H)):=by
 intro w hE hH
 have hkl:=(gl.1 hk).1
 obtain⟨h,rfl⟩:=h
 refine Ey func91 I hH ?_
 refine Cs I (Ak I (Ag (Cs I (Lm I (Lc I (Lfa Co I Z98 I (Lo G98 0 I (Lm I (Lq I (As i I U98 GX I (Hrd 1 I) I I (by omega)) (Lq I (AI i 0 I Ja I I (Hrd 1 I) hk I) (Nk (Al (Cs I (Lq rfl (Cw rfl Ia (fun _ h=>by cases h) rfl) (Lq I (Qx I) (Lq I (Qx I) (Nk (Ai I (Cs I (Ak I (Ag (Cs I (Lm I ?_)))))))))))))))))))))))
 refine AV (l_e I (Bg (Rw b 0 nx vo) I I I call75 I Tt (fun _ _=>Nk (Ab I (Ae (Kt (Cs I (Lm I (Pm [0,2] I (l_e I (Gn (OD b 0 nx vo ops) I I I call37 I Tt (fun _ _=>Lq I (Qt I) (Ak I (Af (Am (Aa (Pm [2,2] I (An I I ?_))))))))))))))))))
 exact fun _ h=>⟨(),rfl,trivial,h⟩
theorem dJ (h:GH x L B) (hQ:DA L) (bH bt:Nat) (vT vO vE:Value) (sq pk:Int) (tks:List Tk) (i:Nat) (hi:tks.length<=8) (b bw nx:Nat) (vo:Value) (ops:List Opn) (more:List Ent) (hk:tks[i]?=some (.c b)):Con prog 91 [ptV bH,.int .i64 (i:Int)] (fun _=>True) (HSE bH (ptV x.bh) bt vT vO vE sq pk::Az vT 102 Tk.enc tks::CLE b vo nx [ptV bw,.pointer none]::Az vo 43 Opn.enc ops::(more++x.H)) (fun _:Unit=>.bool (L.may (i:Int))) (fun _=>True) (fun _=>HSE bH (ptV x.bh) bt vT vO vE sq pk::Az vT 102 Tk.enc tks::CLE b vo nx [ptV bw,.pointer none]::Az vo 43 Opn.enc ops::(more++x.H)):=by
 intro w hE hH
 have hkl:=(gl.1 hk).1
 obtain⟨h,rfl⟩:=h
 refine Ey func91 I hH ?_
 refine Cs I (Ak I (Ag (Cs I (Lm I (Lc I (Lfa Co I Z98 I (Lo G98 0 I (Lm I (Lq I (As i I U98 GX I (Hrd 1 I) I I (by omega)) (Lq I (AI i 0 I Ja I I (Hrd 1 I) hk I) (Nk (Al (Cs I (Lq rfl (Cw rfl Ia (fun _ h=>by cases h) rfl) (Lq I (Qx I) (Lq I (Qx I) (Nk (Ai I (Cs I (Ak I (Ag (Cs I (Lm I ?_)))))))))))))))))))))))
 refine AV (l_e I (Bg (VU b bw nx vo) I I I call75 I Tt (fun _ _=>Nk (Ai I (Cs I (Lm I (Lc I (Lfa Co I Z47 I (Lo G47 1 I (Lm I (Pm [1,1] I (l_e I (Ee (_::_::_::_::more) (GF h (i:Int)) I call82 Tt (fun _ _=>Pw (St _ _ (_::_::_::_::(more++x.H))) ?_))))))))))))))
 refine Ak I (Af (Aa (Am (Aa (An I I ?_)))))
 exact fun _ h=>⟨(),rfl,trivial,h⟩
theorem dK (h:GH x L B) (hQ:DA L) (bH bt:Nat) (vT vO vE:Value) (sq pk:Int) (tks:List Tk) (i:Nat) (hi:tks.length<=8) (b bw nx:Nat) (vo:Value) (ops:List Opn) (more:List Ent) (hk:tks[i]?=some (.c b)):Con prog 91 [ptV bH,.int .i64 (i:Int)] (fun _=>True) (HSE bH (ptV x.bh) bt vT vO vE sq pk::Az vT 102 Tk.enc tks::CLE b vo nx [.pointer none,ptV bw]::Az vo 43 Opn.enc ops::(more++x.H)) (fun _:Unit=>.bool (L.may (i:Int))) (fun _=>True) (fun _=>HSE bH (ptV x.bh) bt vT vO vE sq pk::Az vT 102 Tk.enc tks::CLE b vo nx [.pointer none,ptV bw]::Az vo 43 Opn.enc ops::(more++x.H)):=by
 intro w hE hH
 have hkl:=(gl.1 hk).1
 obtain⟨h,rfl⟩:=h
 refine Ey func91 I hH ?_
 refine Cs I (Ak I (Ag (Cs I (Lm I (Lc I (Lfa Co I Z98 I (Lo G98 0 I (Lm I (Lq I (As i I U98 GX I (Hrd 1 I) I I (by omega)) (Lq I (AI i 0 I Ja I I (Hrd 1 I) hk I) (Nk (Al (Cs I (Lq rfl (Cw rfl Ia (fun _ h=>by cases h) rfl) (Lq I (Qx I) (Lq I (Qx I) (Nk (Ai I (Cs I (Ak I (Ag (Cs I (Lm I ?_)))))))))))))))))))))))
 refine AV (l_e I (Bg (VV b bw nx vo) I I I call75 I Tt (fun _ _=>Nk (Ai I (Cs I (Lm I (Lc I (Lfa Co I Z47 I (Lo G47 1 I (Lm I (Pm [1,1] I (l_e I (Ee (_::_::_::_::more) (GF h (i:Int)) I call82 Tt (fun _ _=>Pw (St _ _ (_::_::_::_::(more++x.H))) ?_))))))))))))))
 refine Ak I (Af (Aa (Am (Aa (An I I ?_)))))
 exact fun _ h=>⟨(),rfl,trivial,h⟩
theorem dL (h:GH x L B) (hQ:DA L) (bH bt:Nat) (vT vO vE:Value) (sq pk:Int) (tks:List Tk) (i:Nat) (hi:tks.length<=8) (b:Nat) (t:Int) (hk:tks[i]?=some (.f b)):Con prog 91 [ptV bH,.int .i64 (i:Int)] (fun _=>True) (HSE bH (ptV x.bh) bt vT vO vE sq pk::Az vT 102 Tk.enc tks::FLE b t::x.H) (fun _:Unit=>.bool false) (fun _=>True) (fun _=>HSE bH (ptV x.bh) bt vT vO vE sq pk::Az vT 102 Tk.enc tks::FLE b t::x.H):=by
 intro w hE hH
 have hkl:=(gl.1 hk).1
 obtain⟨h,rfl⟩:=h
 refine Ey func91 I hH ?_
 refine Cs I (Ak I (Ag (Cs I (Lm I (Lc I (Lfa Co I Z98 I (Lo G98 0 I (Lm I (Lq I (As i I U98 GX I (Hrd 1 I) I I (by omega)) (Lq I (AI i 0 I Ja I I (Hrd 1 I) hk I) (Nk (Al (Cs I (Lq rfl (CO rfl Ia (fun _ h=>by cases h) rfl (by decide) zeroValue103) (Lq I (Qx I) (Lq I (Qx I) (Nk (Ab I (Cs I (Lq rfl (Cw rfl Xr (fun _ h=>by cases h) rfl) (Lq I (Qx I) (Lq I (Qx I) (Nk ?_)))))))))))))))))))))))
 refine Ai I (Cs I (l_e I (Au I I I zeroValue108 (fun bf=>Ce [.pointer none] I (l_e I (Ah rfl rfl sizeOf108 rfl rfl rfl (by intro v hv;simp at hv;subst hv;rfl) (iy rfl) (Ce [ptV b] I (Ns (Cs I (Lfa Xr I sizeOf106 I (Lo isAgg106 0 I (DS (l_e I (Bg (dH b t) I I I call147 I Tt (fun _ _=>Nk (Ai I (Cs I (Lm I (Lc I (Lfa Co I Z47 I (Lo G47 2 I (Pm [1,1,1] I (l_e I (Ee [_,_,_,_] (eI h hQ) I call148 Tt (fun _ _=>Pw (St _ _ (_::_::_::_::HQ.H (x))) ?_)))))))))))))))))))))))))
 refine Ak I (Af (Aa (Am (Aa (Av (An I I ?_))))))
 exact fun _ h=>⟨(),rfl,trivial,h⟩
theorem dM (h:GH x L B) (hQ:DA L) (bH bt:Nat) (vT vO vE:Value) (sq pk:Int) (tks:List Tk) (i:Nat) (hi:tks.length<=8) (hk:tks[i]?=some .e):Con prog 91 [ptV bH,.int .i64 (i:Int)] (fun _=>True) (HSE bH (ptV x.bh) bt vT vO vE sq pk::Az vT 102 Tk.enc tks::x.H) (fun _:Unit=>.bool false) (fun _=>True) (fun _=>HSE bH (ptV x.bh) bt vT vO vE sq pk::Az vT 102 Tk.enc tks::x.H):=by
 intro w hE hH
 have hkl:=(gl.1 hk).1
 obtain⟨h,rfl⟩:=h
 refine Ey func91 I hH ?_
 refine Cs I (Ak I (Ag (Cs I (Lm I (Lc I (Lfa Co I Z98 I (Lo G98 0 I (Lm I (Lq I (As i I U98 GX I (Hrd 1 I) I I (by omega)) (Lq I (AI i 0 I Ja I I (Hrd 1 I) hk I) (Nk (Al (Cs I (Lq rfl (CO rfl Ia (fun _ h=>by cases h) rfl (by decide) zeroValue103) (Lq I (Qx I) (Lq I (Qx I) (Nk (Ab I (Cs I (Lq rfl (CO rfl Xr (fun _ h=>by cases h) rfl (by decide) zeroValue108) (Lq I (Qx I) (Lq I (Qx I) (Nk ?_)))))))))))))))))))))))
 refine Ab I (Ae (Aw (Kt (Cs I (Lm I (Lc I (Lfa Co I Z47 I (Lo G47 0 I (Lc I (Lfa U91 I Z86 I (Lo G86 2 I (l_e I (Ee [_,_] (Zi h) I call99 Tt (fun v _=>Pw (St _ _ (_::_::_::HQ.H (x))) ?_))))))))))))))
 refine Lq I (AL I U22 I (Hrd 2 I)) (Lq I (BS I I I) (Lm I (Sb 55 false I (by rw[show x.q.M.line=[] from hQ.line];rfl) (Lx I (Lx I (Lx I (Lx I (Lx I (Lx I (Lq I (Qz I) (Ak I (Af (Pm [2] I (Av (An I I ?_)))))))))))))))
 exact fun _ h=>⟨(),rfl,trivial,h⟩
theorem Kq {h:HC} {m:HM} (k:HOk h m B) (hQ:DA m.L) {i:Nat} (hi:i<m.T.n):Con prog 91 [ptV h.bH,.int .i64 (i:Int)] (fun _=>True) (h.H m) (fun _:Unit=>.bool (mayI m i)) (fun _=>True) (fun _=>h.H m):=by
 obtain⟨a,ha⟩:∃a,h.tks[i]?=some a:=⟨_,fD (by rw[k.tlen];exact hi)⟩
 have h8:h.tks.length<=8:=by rw[k.tlen,k.tn];exact k.n8
 rcases k.tk ha with⟨c,hc,rfl⟩|⟨b,hb,hfb,rfl⟩|⟨he,rfl⟩
 · have hm:mayI m i=mayC (i:Int) m.L c.m:=by unfold mayI;rw[k.at hc]
   rw[hm]
   have hp:(h.H m).Perm ((HSE h.bH (ptV h.x.bh) h.bt h.vT h.vO h.vE m.sq m.pk::Az h.vT 102 Tk.enc h.tks::(c.H (i:Int)++h.x.H))++(Az h.vE 71 Evt.enc m.ev::Ad h.bt 171 (Sc.fh m.T)::(CLo 0 i h.cc++FLs h.cc.length h.fl))):=by
    have h1:=MK (k:=0) hc
    rw[gE] at h1
    refine (P9 _ _ _ _ _).trans ?_
    exact ((((h1.append_right (FLs h.cc.length h.fl++h.x.H)).cons _).cons _).cons _).cons _ |>.trans (ML _ _ _ _ (c.H (i:Int)) (CLo 0 i h.cc) (FLs h.cc.length h.fl) h.x.H)
   obtain⟨b,vo,bw,br,⟨ops,nx,ph⟩⟩:=c
   have go:∀(v:Bool),Con prog 91 [ptV h.bH,.int .i64 (i:Int)] (fun _=>True) (HSE h.bH (ptV h.x.bh) h.bt h.vT h.vO h.vE m.sq m.pk::Az h.vT 102 Tk.enc h.tks::((⟨b,vo,bw,br,⟨ops,nx,ph⟩⟩:CC).H (i:Int)++h.x.H)) (fun _:Unit=>.bool v) (fun _=>True) (fun _=>HSE h.bH (ptV h.x.bh) h.bt h.vT h.vO h.vE m.sq m.pk::Az h.vT 102 Tk.enc h.tks::((⟨b,vo,bw,br,⟨ops,nx,ph⟩⟩:CC).H (i:Int)++h.x.H))->Con prog 91 [ptV h.bH,.int .i64 (i:Int)] (fun _=>True) (h.H m) (fun _:Unit=>.bool v) (fun _=>True) (fun _=>h.H m):=fun v s =>
    Con.pack _ s hp (fun _ _ _=>trivial) id (fun _ _=>⟨rfl,trivial,[],by rw[jc];exact hp.symm⟩)
   refine go _ ?_
   cases ph with
   |idle=>exact dI k.lh hQ h.bH h.bt h.vT h.vO h.vE m.sq m.pk h.tks i h8 b nx vo ops [] ha
   |rd a=>exact dJ k.lh hQ h.bH h.bt h.vT h.vO h.vE m.sq m.pk h.tks i h8 b bw nx vo ops _ ha
   |wr a=>exact dK k.lh hQ h.bH h.bt h.vT h.vO h.vE m.sq m.pk h.tks i h8 b bw nx vo ops _ ha
 · have hm:mayI m i=false:=by unfold mayI;rw[fI (by omega)]
   rw[hm]
   have h1:=V5 (k:=h.cc.length) hfb
   have hp:(h.H m).Perm ((HSE h.bH (ptV h.x.bh) h.bt h.vT h.vO h.vE m.sq m.pk::Az h.vT 102 Tk.enc h.tks::(([FLE b ((h.cc.length+(i-m.cs.length):Nat):Int)]:List Ent)++h.x.H))++(Az h.vE 71 Evt.enc m.ev::Ad h.bt 171 (Sc.fh m.T)::(FLo h.cc.length (i-m.cs.length) h.fl++CLs 0 h.cc))):=by
    refine (P9 _ _ _ _ _).trans ?_
    have h2:(CLs 0 h.cc++(FLs h.cc.length h.fl++h.x.H)).Perm ((([FLE b ((h.cc.length+(i-m.cs.length):Nat):Int)]:List Ent)++FLo h.cc.length (i-m.cs.length) h.fl)++(CLs 0 h.cc++h.x.H)) :=
     (kl _ _ _).trans (h1.append_right _)
    exact (((h2.cons _).cons _).cons _).cons _ |>.trans (ML _ _ _ _ _ _ _ _)
   exact Con.pack _ (dL k.lh hQ h.bH h.bt h.vT h.vO h.vE m.sq m.pk h.tks i h8 b _ ha) hp (fun _ _ _=>trivial) id (fun _ _=>⟨rfl,trivial,[],by rw[jc];exact hp.symm⟩)
 · have hm:mayI m i=false:=by unfold mayI;rw[fI (by omega)]
   rw[hm]
   have hp:(h.H m).Perm ((HSE h.bH (ptV h.x.bh) h.bt h.vT h.vO h.vE m.sq m.pk::Az h.vT 102 Tk.enc h.tks::h.x.H)++(Az h.vE 71 Evt.enc m.ev::Ad h.bt 171 (Sc.fh m.T)::(CLs 0 h.cc++FLs h.cc.length h.fl))):=bF _ _ _ _ _ _ _
   exact Con.pack _ (dM k.lh hQ h.bH h.bt h.vT h.vO h.vE m.sq m.pk h.tks i h8 ha) hp (fun _ _ _=>trivial) id (fun _ _=>⟨rfl,trivial,[],by rw[jc];exact hp.symm⟩)
theorem Kr {h:HC} {m:HM} (k:HOk h m B) {i:Nat} {c:CC} (hc:h.cc[i]?=some c):Con prog 37 [ptV c.b] (fun _=>True) (h.H m) (fun _:Unit=>.bool c.m.ended) (fun _=>True) (fun _=>h.H m):=by
 have h1:=MK (k:=0) hc
 rw[gE] at h1
 have h2:(CLs 0 h.cc++(FLs h.cc.length h.fl++h.x.H)).Perm ((c.H (i:Int)++CLo 0 i h.cc)++(FLs h.cc.length h.fl++h.x.H)):=h1.append_right _
 obtain⟨b,vo,bw,br,⟨ops,nx,ph⟩⟩:=c
 have hp:(h.H m).Perm (([CLE b vo nx (⟨b,vo,bw,br,⟨ops,nx,ph⟩⟩:CC).ptrs,Az vo 43 Opn.enc ops]:List Ent)++(((⟨b,vo,bw,br,⟨ops,nx,ph⟩⟩:CC).more (i:Int)++CLo 0 i h.cc)++(FLs h.cc.length h.fl++h.x.H)++[HSE h.bH (ptV h.x.bh) h.bt h.vT h.vO h.vE m.sq m.pk,Az h.vE 71 Evt.enc m.ev,Az h.vT 102 Tk.enc h.tks,Ad h.bt 171 (Sc.fh m.T)])):=by
  refine ((((h2.cons _).cons _).cons _).cons _).trans ?_
  have h3:=js (l₁:=[HSE h.bH (ptV h.x.bh) h.bt h.vT h.vO h.vE m.sq m.pk,Az h.vE 71 Evt.enc m.ev,Az h.vT 102 Tk.enc h.tks,Ad h.bt 171 (Sc.fh m.T)]) (l₂:=(((⟨b,vo,bw,br,⟨ops,nx,ph⟩⟩:CC).H (i:Int)++CLo 0 i h.cc)++(FLs h.cc.length h.fl++h.x.H)))
  exact h3
 have go:∀(v:Bool),Con prog 37 [ptV b] (fun _=>True) ([CLE b vo nx (⟨b,vo,bw,br,⟨ops,nx,ph⟩⟩:CC).ptrs,Az vo 43 Opn.enc ops]:List Ent) (fun _:Unit=>.bool v) (fun _=>True) (fun _=>[CLE b vo nx (⟨b,vo,bw,br,⟨ops,nx,ph⟩⟩:CC).ptrs,Az vo 43 Opn.enc ops])->Con prog 37 [ptV b] (fun _=>True) (h.H m) (fun _:Unit=>.bool v) (fun _=>True) (fun _=>h.H m):=fun v s =>
  Con.pack _ s hp (fun _ _ _=>trivial) id (fun _ _=>⟨rfl,trivial,[],by rw[jc];exact hp.symm⟩)
 refine go _ ?_
 cases ph with
 |idle=>exact OD b 0 nx vo ops
 |rd a=>exact Yo b bw nx vo ops
 |wr a=>exact Yp b bw nx vo ops
abbrev HM.setT (m:HM) (T:Sc.Tab):HM:={m with T:=T}
theorem HOk.setT {z:HC} {m:HM} (k:HOk z m B) {T:Sc.Tab} (hn:T.n=m.T.n) (ho:T.Ok ((B*10:Nat):Int)):HOk z (m.setT T) B:=⟨k.lh,k.cs,k.nf,by show T.n=_;rw[hn];exact k.tn,ho,k.n8,k.ol,k.ev,k.sq,k.pk⟩
theorem HOk.fb {z:HC} {m:HM} (k:HOk z m B) (j:Nat):HOk z (m.setT (fb m j m.T)) B:=k.setT (tellT_n m j m.T) (tellT_ok m j k.tok)
theorem Zp {z:HC} {m:HM} (k:HOk z m B) (hQ:DA m.L):Con prog 42 [ptV z.bH] (fun _=>True) (z.H m) (fun _:Unit=>.tuple #[]) (fun _=>True) (fun _=>z.H (m.setT (fb m m.T.n m.T))):=by
 intro w hE hH
 have htl:=k.tlen
 have h8:m.T.n<=8:=by rw[k.tn];exact k.n8
 refine Ey func42 I hH ?_
 refine Cs I (Lm I (Lc I (Lfa Co I Z98 I (Lo G98 0 I (Lq I (AL I U98 I (Hrd 2 I)) (Lm I (Nk (Al ?_))))))))
 refine Bc (fun (i:Nat)=>[(0,ptV z.bH),(9,z.vT),(10,.int .i64 (z.tks.length:Int)),(11,.int .i64 (i:Int))]) (fun (i:Nat)=>St w (dom (z.H m)) (z.H (m.setT (fb m i m.T)))) (fun (i:Nat)=>i<=z.tks.length) (fun (i:Nat)=>z.tks.length-i) (0) (gb _) (Si I) Ih (fun i hi=>Cs I (Lq I (Ql I) (Ns ?_)))
 refine CB 12 I (fun hlt=>?_) (fun hlt=>?_)
 · obtain⟨a,ha⟩:∃a,z.tks[i]?=some a:=⟨_,fD (by omega)⟩
   have km:=k.fb i
   have hin:i<(m.setT (fb m i m.T)).T.n:=by rw[show (m.setT (fb m i m.T)).T.n=m.T.n from tellT_n m i m.T];omega
   rcases k.tk ha with⟨c,hc,rfl⟩|⟨b,hb,hfb,rfl⟩|⟨he,rfl⟩
   · have hcm:=k.at hc
     refine Ai I (Ae (Ks (Al (Cs I (Lm I (Lq I (As i I U98 GX I (Hrd 2 I) I I (by omega)) (Lq I (AI i 0 I Ja I I (Hrd 2 I) ha I) (Las I (Ak I (Cs I (Lm I (Lq rfl (Cw rfl Ia (fun _ h=>by cases h) rfl) (Lm I (Lq I (Qx I) (Lq I (Qx I) (Las I (Ak I (Al (Cs I (Lm I (Lm I (l_e I (Ee [] (Kq km hQ hin) I call91 Tt (fun _ _=>Pw (St _ _ (HC.H z (m.setT (fb m i m.T)))) ?_))))))))))))))))))))))))
     refine Ak I ?_
     refine Pre.caseB 27 I (fun hmy=>?_) (fun hmy=>?_)
     · refine Ai I (Cr I (Lm I (Lc I (Lfa Co I Z97 I (Lo G97 0 I (Lm I (Pm [3] I (l_e I (Bg (Sc.wake_spec km.tok z.bt (i:Int)) I I I call92 I Tt (fun _ _=>AB (Aw (Aw (Kt (Cr I (Lq I (Qi I (by omega)) (Lm I (AB (Pm [1,1,1] I ?_))))))))))))))))))
       have hst:stI m i=0:=by unfold stI;rw[fO (show mayI m i=true from hmy)]
       exact AD (i+1) (by omega) (by omega) (Si I) (fun _ h=>by
        show St w _ (HC.H z (m.setT (Sc.fj (fb m i m.T) (i:Int) (stI m i)))) _
        rw[hst];exact h)
     · refine Ab I (Cs I (Lm I (Lm I (Lm I (l_e I (Ee [] (Kr km hc) I call37 Tt (fun _ _=>Pw (St _ _ (HC.H z (m.setT (fb m i m.T)))) ?_)))))))
       refine Lq I (Qy I) (Ak I ?_)
       refine Pre.caseB 37 I (fun hen=>?_) (fun hen=>?_)
       · refine Ai I (Cr I (Lm I (Lc I (Lfa Co I Z97 I (Lo G97 0 I (Lm I (Pm [3] I (l_e I (Bg (Sc.end_spec km.tok z.bt (i:Int)) I I I call93 I Tt (fun _ _=>AB (Aw (Aw (Kt (Cr I (Lq I (Qi I (by omega)) (Lm I (AB (Pm [1,1,1] I ?_))))))))))))))))))
         have hst:stI m i=2:=by unfold stI;rw[fR (by rw[show mayI m i=false from hmy];decide),hcm];simp only;rw[fO hen]
         exact AD (i+1) (by omega) (by omega) (Si I) (fun _ h=>by
          show St w _ (HC.H z (m.setT (Sc.fj (fb m i m.T) (i:Int) (stI m i)))) _
          rw[hst];exact h)
       · refine Ab I (Cr I (Lm I (Lc I (Lfa Co I Z97 I (Lo G97 0 I (Lm I (Pm [3] I (l_e I (Bg (Sc.block_spec km.tok z.bt (i:Int)) I I I call94 I Tt (fun _ _=>AB (Aw (Aw (Kt (Cr I (Lq I (Qi I (by omega)) (Lm I (AB (Pm [1,1,1] I ?_))))))))))))))))))
         have hst:stI m i=1:=by unfold stI;rw[fR (by rw[show mayI m i=false from hmy];decide),hcm];simp only;rw[fR (by rw[hen];decide)]
         exact AD (i+1) (by omega) (by omega) (Si I) (fun _ h=>by
          show St w _ (HC.H z (m.setT (Sc.fj (fb m i m.T) (i:Int) (stI m i)))) _
          rw[hst];exact h)
   · have hno:m.cs[i]?=none:=fI (by omega)
     have hmy:mayI m i=false:=by unfold mayI;rw[hno]
     refine Ai I (Ae (Ks (Al (Cs I (Lm I (Lq I (As i I U98 GX I (Hrd 2 I) I I (by omega)) (Lq I (AI i 0 I Ja I I (Hrd 2 I) ha I) (Las I (Ak I (Cs I (Lm I (Lq rfl (CO rfl Ia (fun _ h=>by cases h) rfl (by decide) zeroValue103) (Lm I (Lq I (Qx I) (Lq I (Qx I) (Las I (Ak I (Al (Cs I (Lm I (Lm I (l_e I (Ee [] (Kq km hQ hin) I call91 Tt (fun _ _=>Pw (St _ _ (HC.H z (m.setT (fb m i m.T)))) ?_))))))))))))))))))))))))
     refine Sv' 30 (.bool false) I (by rw[show mayI (m.setT (fb m i m.T)) i=false from hmy]) (Ak I (Ab I (Cs I (Lm I (Lm I (Lx I (Lx I (Lq I (Qz I) (Ak I (Ab I (Cr I (Lm I (Lc I (Lfa Co I Z97 I (Lo G97 0 I (Lm I (Pm [3] I (l_e I (Bg (Sc.block_spec km.tok z.bt (i:Int)) I I I call94 I Tt (fun _ _=>AB (Aw (Aw (Kt (Cr I (Lq I (Qi I (by omega)) (Lm I (AB (Pm [1,1,1] I ?_))))))))))))))))))))))))))))
     have hst:stI m i=1:=by unfold stI;rw[fR (by rw[hmy];decide),hno]
     exact AD (i+1) (by omega) (by omega) (Si I) (fun _ h=>by
      show St w _ (HC.H z (m.setT (Sc.fj (fb m i m.T) (i:Int) (stI m i)))) _
      rw[hst];exact h)
   · have hno:m.cs[i]?=none:=fI (by omega)
     have hmy:mayI m i=false:=by unfold mayI;rw[hno]
     refine Ai I (Ae (Ks (Al (Cs I (Lm I (Lq I (As i I U98 GX I (Hrd 2 I) I I (by omega)) (Lq I (AI i 0 I Ja I I (Hrd 2 I) ha I) (Las I (Ak I (Cs I (Lm I (Lq rfl (CO rfl Ia (fun _ h=>by cases h) rfl (by decide) zeroValue103) (Lm I (Lq I (Qx I) (Lq I (Qx I) (Las I (Ak I (Al (Cs I (Lm I (Lm I (l_e I (Ee [] (Kq km hQ hin) I call91 Tt (fun _ _=>Pw (St _ _ (HC.H z (m.setT (fb m i m.T)))) ?_))))))))))))))))))))))))
     refine Sv' 30 (.bool false) I (by rw[show mayI (m.setT (fb m i m.T)) i=false from hmy]) (Ak I (Ab I (Cs I (Lm I (Lm I (Lx I (Lx I (Lq I (Qz I) (Ak I (Ab I (Cr I (Lm I (Lc I (Lfa Co I Z97 I (Lo G97 0 I (Lm I (Pm [3] I (l_e I (Bg (Sc.block_spec km.tok z.bt (i:Int)) I I I call94 I Tt (fun _ _=>AB (Aw (Aw (Kt (Cr I (Lq I (Qi I (by omega)) (Lm I (AB (Pm [1,1,1] I ?_))))))))))))))))))))))))))))
     have hst:stI m i=1:=by unfold stI;rw[fR (by rw[hmy];decide),hno]
     exact AD (i+1) (by omega) (by omega) (Si I) (fun _ h=>by
      show St w _ (HC.H z (m.setT (Sc.fj (fb m i m.T) (i:Int) (stI m i)))) _
      rw[hst];exact h)
 · have hie:i=m.T.n:=by omega
   refine Ab I (AO (Ac (Ac (Ar (Bl (Bv I ?_))))))
   exact fun _ h=>⟨(),rfl,trivial,by rw[hie] at h;exact h⟩
def HM.client (m:HM) (t:Nat):HM:=match m.cs[t]? with
 |some c=>{m with L:=(fe (t:Int) m.sq m.L c).1,cs:=m.cs.set t (fe (t:Int) m.sq m.L c).2.1,sq:=FT (fe (t:Int) m.sq m.L c).2.2.1 m.sq,ev:=m.ev++(fe (t:Int) m.sq m.L c).2.2.2}
 |none=>m
def ff (m:HM) (p:Int):HM :=
 if Sc.fg m.T=[] then m
 else (({m with T:=Sc.fc m.T p,pk:=m.pk+1}:HM).client (Sc.whoM m.T p)).setT (fb (({m with T:=Sc.fc m.T p,pk:=m.pk+1}:HM).client (Sc.whoM m.T p)) m.T.n (Sc.fc m.T p))
def HM.Pre (m:HM):Prop:=∀t∈Sc.fg m.T,∃c,m.cs[t]?=some c/\preC (t:Int) m.sq m.L c/\(c.ph.isI=false->m.L.may (t:Int)=true)
theorem stepC_ops (t sq:Int) (L:Hm) (c:Cl):(fe t sq L c).2.1.ops=c.ops:=by
 unfold fe
 split<;>(try split)<;>rfl
theorem V7 (t sq:Int) (L:Hm) (c:Cl):(fe t sq L c).2.2.2.length<=2:=by
 unfold fe
 split<;>(try split)<;>simp
theorem stepC_nx {t sq:Int} {c:Cl} (hp:preC t sq L c) (hn:c.ph.isI=false->c.nx<c.ops.length):(fe t sq L c).2.1.nx<=c.ops.length/\((fe t sq L c).2.1.ph.isI=false->(fe t sq L c).2.1.nx<c.ops.length):=by
 have h1:c.nx<c.ops.length:=by
  cases hc:c.ph with
  |idle=>unfold preC at hp;rw[hc] at hp;exact hp.1
  |rd r=>exact hn (by rw[hc];rfl)
  |wr v=>exact hn (by rw[hc];rfl)
 unfold fe
 split<;>split<;>first|exact⟨Nat.le_of_lt h1,fun _=>h1⟩|exact⟨h1,fun h=>by cases h⟩
theorem HOk.client {z:HC} {m:HM} (k:HOk z m B) (hB:B+1<=60000) (hev1:m.ev.length+1<=B) {t:Nat} {c:CC} (hc:z.cc[t]?=some c) (hpre:preC (t:Int) m.sq m.L c.m) {v:Value} {c':CC} {y:HQ} (h1:c'.b=c.b) (h2:c'.m=(fe (t:Int) m.sq m.L c.m).2.1) (h3:GH y (fe (t:Int) m.sq m.L c.m).1 (B+1)):HOk {z with vE:=v,cc:=z.cc.set t c',x:=y} (m.client t) (B+1):=by
 have hcm:=k.at hc
 have hm:m.client t={m with L:=(fe (t:Int) m.sq m.L c.m).1,cs:=m.cs.set t (fe (t:Int) m.sq m.L c.m).2.1,sq:=FT (fe (t:Int) m.sq m.L c.m).2.2.1 m.sq,ev:=m.ev++(fe (t:Int) m.sq m.L c.m).2.2.2}:=by unfold HM.client;rw[hcm]
 rw[hm]
 have hl:=k.ol c.m (hY hcm)
 refine⟨h3,?_,k.nf,?_,k.tok.mono (by omega),?_,?_,?_,?_,gF k.pk (jT B)⟩
 · show (z.cc.set t c').map CC.m=_
   rw[il,h2,k.cs]
 · show m.T.n=(m.cs.set t _).length+(m.nf+1)
   rw[je];exact k.tn
 · show (m.cs.set t _).length+(m.nf+1)<=8
   rw[je];exact k.n8
 · intro d hd
   rcases jW hd with e|e
   · exact k.ol d e
   · subst e
     rw[stepC_ops]
     have:=stepC_nx hpre hl.2.2
     exact⟨hl.1,this.1,this.2⟩
 · show (m.ev++_).length<=_
   rw[fL]
   have:=V7 (t:Int) m.sq m.L c.m
   have:=k.ev
   omega
 · show 1<=FT _ m.sq/\FT _ m.sq<=((B+1:Nat):Int)+1
   have hs:=k.sq
   unfold FT
   split
   · rw[Q1 (by omega) (by omega)];omega
   · omega
theorem dN {l:List CC} {c c':CC} (h0:l[i]?=some c) (hb:c'.b=c.b):(l.set i c').map (fun c=>Tk.c c.b)=l.map (fun c=>Tk.c c.b):=by
 rw[il,hb]
 exact gv (fun j=>by
  rw[jD]
  split
  · rename_i e;subst e;split
    · rw[gm,h0];rfl
    · rename_i hn;exact absurd (by simpa using (gl.1 h0).1) hn
  · rfl)
theorem OG {z:HC} {m:HM} (k:HOk z m B) (hB:B+1<=60000) (hev1:m.ev.length+1<=B) {t:Nat} {c:CC} (hc:z.cc[t]?=some c) (hmay:c.m.ph.isI=false->m.L.may (t:Int)=true) (hpre:preC (t:Int) m.sq m.L c.m):Con prog 39 [ptV z.bH,.int .i64 (t:Int),ptV c.b] (fun _=>True) (z.H m) (fun _:HC=>.tuple #[])
 (fun z'=>z'.bH=z.bH/\z'.bt=z.bt/\HOk z' (m.client t) (B+1)) (fun z'=>z'.H (m.client t)):=by
 have hcm:=k.at hc
 have hol:=k.ol c.m (hY hcm)
 have hlt:=(gl.1 hc).1
 have ht8:tkB (t:Int)=true:=by
  have:=k.n8
  have:=k.len
  unfold tkB
  rw[jq (show (0:Int)<=(t:Int) by omega),jq (show (t:Int)<8 by omega)];rfl
 have hm:m.client t={m with L:=(fe (t:Int) m.sq m.L c.m).1,cs:=m.cs.set t (fe (t:Int) m.sq m.L c.m).2.1,sq:=FT (fe (t:Int) m.sq m.L c.m).2.2.1 m.sq,ev:=m.ev++(fe (t:Int) m.sq m.L c.m).2.2.2}:=by unfold HM.client;rw[hcm]
 have hsq:(Lit.int .u64 m.sq).wf=true:=by
  have:=k.sq
  simp only[Lit.wf,gQ,ia]
  exact⟨by show (0:Int)<=_;omega,by show _<=(2^64-1:Int);omega⟩
 have s:=OE k.lh.ok hB ht8 z.bH z.bt z.vT z.vO z.vE m.sq m.pk m.ev (by have:=k.ev;omega) hsq c hol.1 (gF hol.2.1 hol.1) (by rw[k.lh.hm];exact hmay) (by rw[k.lh.hm];exact hpre)
 rw[k.lh.hm] at s
 have h1:=MK (k:=0) hc
 rw[gE] at h1
 have hp:(z.H m).Perm ((HSE z.bH (ptV z.x.bh) z.bt z.vT z.vO z.vE m.sq m.pk::Az z.vE 71 Evt.enc m.ev::(c.H (t:Int)++z.x.H))++(Az z.vT 102 Tk.enc z.tks::Ad z.bt 171 (Sc.fh m.T)::(CLo 0 t z.cc++FLs z.cc.length z.fl))):=by
  exact ((((h1.append_right (FLs z.cc.length z.fl++z.x.H)).cons _).cons _).cons _).cons _ |>.trans (ML _ _ _ _ (c.H (t:Int)) (CLo 0 t z.cc) (FLs z.cc.length z.fl) z.x.H)
 refine Con.pack _ s hp (fun _ _ _=>trivial) (fun r=>{z with vE:=r.1,cc:=z.cc.set t r.2.1,x:=r.2.2}) (fun r hr=>⟨rfl,⟨rfl,rfl,k.client hB hev1 hc hpre hr.1 hr.2.1 ⟨hr.2.2.2.1,hr.2.2.2.2⟩⟩,[],?_⟩)
 rw[jc,hm]
 have h2:=Zo (k:=0) r.2.1 hlt
 rw[gE] at h2
 have hb:ptV r.2.2.bh=ptV z.x.bh:=by rw[hr.2.2.1]
 have htk:({z with vE:=r.1,cc:=z.cc.set t r.2.1,x:=r.2.2}:HC).tks=z.tks:=by
  unfold HC.tks
  show (z.cc.set t r.2.1).map _++_=_
  rw[dN hc hr.1]
 have hl2:(z.cc.set t r.2.1).length=z.cc.length:=je ..
 have e:({z with vE:=r.1,cc:=z.cc.set t r.2.1,x:=r.2.2}:HC).H {m with L:=(fe (t:Int) m.sq m.L c.m).1,cs:=m.cs.set t (fe (t:Int) m.sq m.L c.m).2.1,sq:=FT (fe (t:Int) m.sq m.L c.m).2.2.1 m.sq,ev:=m.ev++(fe (t:Int) m.sq m.L c.m).2.2.2}=HSE z.bH (ptV z.x.bh) z.bt z.vT z.vO r.1 (FT (fe (t:Int) m.sq m.L c.m).2.2.1 m.sq) m.pk::Az r.1 71 Evt.enc (m.ev++(fe (t:Int) m.sq m.L c.m).2.2.2)::Az z.vT 102 Tk.enc z.tks::Ad z.bt 171 (Sc.fh m.T)::(CLs 0 (z.cc.set t r.2.1)++(FLs z.cc.length z.fl++r.2.2.H)):=by
  show HSE z.bH (ptV r.2.2.bh) z.bt z.vT z.vO r.1 _ _::Az r.1 71 Evt.enc _::Az z.vT 102 Tk.enc ({z with vE:=r.1,cc:=z.cc.set t r.2.1,x:=r.2.2}:HC).tks::_::(CLs 0 (z.cc.set t r.2.1)++(FLs (z.cc.set t r.2.1).length z.fl++r.2.2.H))=_
  rw[hb,htk,hl2]
 rw[e]
 refine List.Perm.trans ?_ (((((h2.append_right (FLs z.cc.length z.fl++r.2.2.H)).cons _).cons _).cons _).cons _)
 exact (ML _ _ _ _ (r.2.1.H (t:Int)) (CLo 0 t z.cc) (FLs z.cc.length z.fl) r.2.2.H).symm
theorem HOk.mono {z:HC} {m:HM} (k:HOk z m B) (hBC:B<=C) (hC:C<=60000):HOk z m C:=⟨k.lh.mono hBC hC,k.cs,k.nf,k.tn,k.tok.mono (by omega),k.n8,k.ol,gF k.ev hBC,⟨k.sq.1,by have:=k.sq.2;omega⟩,gF k.pk hBC⟩
theorem HOk.pick {z:HC} {m:HM} (k:HOk z m B) (hB:B+2<=60000) (p:Int):HOk z {m with T:=Sc.fc m.T p,pk:=m.pk+1} (B+1) :=
 ⟨k.lh.mono (jT B) (by omega),k.cs,k.nf,by show (Sc.fc m.T p).n=_;rw[Sc.pick_n];exact k.tn,(Sc.pick_ok k.tok p).mono (by omega),k.n8,k.ol,gF k.ev (jT B),⟨k.sq.1,by have h1:=k.sq.2;show m.sq<=((B+1:Nat):Int)+1;omega⟩,Nat.succ_le_succ k.pk⟩
theorem HOk.get {z:HC} {m:HM} (k:HOk z m B) {i:Nat} {cl:Cl} (h:m.cs[i]?=some cl):∃c,z.cc[i]?=some c/\c.m=cl:=by
 rw[<-k.cs,gm] at h
 cases hx:z.cc[i]? with
 |none=>rw[hx] at h;cases h
 |some c=>rw[hx] at h;exact⟨c,rfl,by cases h;rfl⟩
theorem client_T (m:HM) (t:Nat):(m.client t).T=m.T:=by unfold HM.client;split<;>rfl
theorem stepH_eq {m:HM} {p:Int} (hr:Sc.fg m.T≠[]) {cl:Cl} (hcl:m.cs[Sc.whoM m.T p]?=some cl):ff m p=(({m with T:=Sc.fc m.T p,pk:=m.pk+1}:HM).client (Sc.whoM m.T p)).setT (fb (({m with T:=Sc.fc m.T p,pk:=m.pk+1}:HM).client (Sc.whoM m.T p)) (({m with T:=Sc.fc m.T p,pk:=m.pk+1}:HM).client (Sc.whoM m.T p)).T.n (({m with T:=Sc.fc m.T p,pk:=m.pk+1}:HM).client (Sc.whoM m.T p)).T):=by
 unfold ff
 rw[fR hr,client_T]
 show _=HM.setT _ (fb _ (Sc.fc m.T p).n _)
 rw[Sc.pick_n]
theorem HX {z:HC} {m:HM} (k:HOk z m B) (hB:B+2<=60000) (hpk:m.pk<20000) (hP:m.Pre) (p:Int) (hQ:DA (ff m p).L):Con prog 13 [ptV z.bH,.int .i64 p] (fun _=>True) (z.H m) (fun y:HC=>(if Sc.fg m.T=[] then .tuple #[.int .i64 0,.bool false] else .tuple #[.int .i64 (Sc.whoM m.T p:Int),.bool true])) (fun y=>y.bH=z.bH/\HOk y (ff m p) (B+2)) (fun y=>y.H (ff m p)):=by
 intro w hE hH
 have htl:=k.tlen
 have h8:m.T.n<=8:=by rw[k.tn];exact k.n8
 refine Ey func13 I hH ?_
 refine Cs I (Las I (Ak I (Ag (Cs I (Lm I (Lc I (Lfa Co I Z3 I (Lo G3 0 I (Lq I (Qg I) (Nk (Sf 15 I (by omega) (Ab I (Ae (Kt (Cs I (Lm I (Lc I (Lfa Co I Z97 I (Lo G97 0 I (Lm I ?_))))))))))))))))))))
 refine DS (l_e I (Bg (Sc.pick_spec k.tok (by have:=k.lh.ok.b9;omega) z.bt p) I I I call38 I Tt (fun _ _=>Lm I (Lq I (Qx I) (Lq I (Qx I) (Las I (Ak I (Ag (Cs I (Lm I (Lq I (Qt I) (Nk (Pm [1,1,1] I ?_)))))))))))))
 refine Pre.caseB 26 I (fun hr=>?_) (fun hr=>?_)
 · try simp only[iF,Bool.not_eq_false',ia,im,ne_eq,Decidable.not_not] at hr
   have hst:ff m p=m:=by unfold ff;rw[fO (by simpa using hr)]
   have hpk:Sc.fc m.T p=m.T:=by unfold Sc.fc;rw[fO (by simpa using hr)]
   refine Ai I (Cs I (Las I (Ak I (Af (Aa (Be (rs:=[.tmp 4,.tmp 5]) I I ?_))))))
   exact fun _ h=>⟨z,by rw[fO (by simpa using hr)],⟨rfl,by rw[hst];exact k.mono (by omega) hB⟩,by rw[hst];rw[hpk] at h;exact h⟩
 · try simp only[iF,Bool.not_eq_false',ia,im,ne_eq,Decidable.not_not] at hr
   have hr2:Sc.fg m.T≠[]:=by simpa using hr
   obtain⟨cl,hcl,hpre,hmay⟩:=hP (Sc.whoM m.T p) (Sc.who_mem p hr2)
   have km:=k.pick hB p
   obtain⟨c,hc,hcm⟩:=k.get hcl
   subst hcm
   have ha:z.tks[Sc.whoM m.T p]?=some (Tk.c c.b):=by unfold HC.tks;rw[fM (by simpa using (gl.1 hc).1),gm,hc];rfl
   have hal:=(gl.1 ha).1
   refine Ab I (Ae (Kt (Cs I (Lm I (Lc I (Lfa Co I Z3 I (Lo G3 0 I (Lq I (Qi I (by omega)) (Lc I (Lfa Co I Z3 I (l_e I (AF I I Z3 I I I (iy I) (Ce [ptV z.x.bh,ptV z.bt,z.vT,z.vO,z.vE,.int .u64 m.sq,.int .i64 ((m.pk+1:Nat):Int)] I (Ns (Cs I (Lm I (Lc I (Lfa Co I Z98 I (Lo G98 0 I (Lm I (Lq I (As (Sc.whoM m.T p) I U98 GX I (Hrd 2 I) I I (by omega)) (Lq I (AI (Sc.whoM m.T p) 0 I Ja I I (Hrd 2 I) ha I) (Nk ?_)))))))))))))))))))))))
   refine Al (Cs I (Lq rfl (Cw rfl Ia (fun _ h=>by cases h) rfl) (Lq I (Qx I) (Lq I (Qx I) (Nk (Ai I (Cs I (Ak I (Cr I (Lm I (Lm I (Lm I ?_))))))))))))
   refine Pw (St _ _ (HC.H z ({m with T:=Sc.fc m.T p,pk:=m.pk+1}:HM))) ?_
   refine l_e I (Ee [] (OG (m:=({m with T:=Sc.fc m.T p,pk:=m.pk+1}:HM)) km (by omega) (by have:=k.ev;show m.ev.length+1<=B+1;omega) hc hmay hpre) I call39 Tt ?_)
   rintro y ⟨hy1,hy2,hy3⟩
   refine Pw (St _ _ (HC.H y (({m with T:=Sc.fc m.T p,pk:=m.pk+1}:HM).client (Sc.whoM m.T p)))) ?_
   refine AB (Aw (Kt (Cs I (Lm I ?_))))
   have hst:ff m p=(({m with T:=Sc.fc m.T p,pk:=m.pk+1}:HM).client (Sc.whoM m.T p)).setT (fb (({m with T:=Sc.fc m.T p,pk:=m.pk+1}:HM).client (Sc.whoM m.T p)) (({m with T:=Sc.fc m.T p,pk:=m.pk+1}:HM).client (Sc.whoM m.T p)).T.n (({m with T:=Sc.fc m.T p,pk:=m.pk+1}:HM).client (Sc.whoM m.T p)).T):=stepH_eq hr2 hcl
   refine Sv' 66 (ptV y.bH) I (by rw[hy1]) (l_e I (Ee [] (Zp hy3 (by rw[hst] at hQ;exact hQ)) I call42 Tt (fun _ _=>Pw (St _ _ (HC.H y ((({m with T:=Sc.fc m.T p,pk:=m.pk+1}:HM).client (Sc.whoM m.T p)).setT (fb (({m with T:=Sc.fc m.T p,pk:=m.pk+1}:HM).client (Sc.whoM m.T p)) (({m with T:=Sc.fc m.T p,pk:=m.pk+1}:HM).client (Sc.whoM m.T p)).T.n (({m with T:=Sc.fc m.T p,pk:=m.pk+1}:HM).client (Sc.whoM m.T p)).T)))) ?_)))
   refine Nk (Cs I (Lm I (Las I (Ak I (Af (Be (rs:=[.tmp 4,.tmp 5]) I I ?_))))))
   exact fun _ h=>⟨y,by rw[fR hr2],⟨hy1,by rw[hst];exact hy3.fb _⟩,by rw[hst];exact h⟩
theorem eJ {z:HC} {m:HM} (k:HOk z m B):Con prog 47 [ptV z.bH] (fun _=>True) (z.H m) (fun _:Unit=>.int .u64 m.sq) (fun _=>True) (fun _=>z.H m):=by
 intro w hE hH
 refine Ey func47 I hH ?_
 refine Cs I (Ak I (Cs I (Lm I (Lc I (Lfa Co I Z41 I (Lo G41 0 I (Ak I (Af (An I I ?_)))))))))
 exact fun _ h=>⟨(),rfl,trivial,h⟩
theorem RC {z:HC} {m:HM} (k:HOk z m B):Con prog 19 [ptV z.bH] (fun _=>True) (z.H m) (fun _:Unit=>ptV z.x.bh) (fun _=>True) (fun _=>z.H m):=by
 intro w hE hH
 refine Ey func19 I hH ?_
 refine Cs I (Ak I (Cs I (Lm I (Lc I (Lfa Co I Z47 I (Lo G47 0 I (Ak I (Af (An I I ?_)))))))))
 exact fun _ h=>⟨(),rfl,trivial,h⟩
theorem RD {z:HC} {m:HM} (k:HOk z m B) (t:Int):Con prog 44 [ptV z.bH,.int .i64 t] (fun _=>True) (z.H m) (fun n:Int=>.int .i64 n) (fun _=>True) (fun _=>z.H m):=by
 intro w hE hH
 refine Ey func44 I hH ?_
 refine Cs I (Ak I (Cs I (Lm I (Lc I (Lfa Co I Z97 I (Lo G97 0 I (Lm I (DS (l_e I (Bg (Sc.wait_spec k.tok z.bt t) I I I call95 I Tt (fun _ _=>Ak I (Af (Pm [1,1,1] I (An I I ?_))))))))))))))
 exact fun _ h=>⟨_,rfl,trivial,h⟩
theorem dO {z:HC} {m:HM} (k:HOk z m B):Con prog 43 [ptV z.bH] (fun _=>True) (z.H m) (fun v:Value=>v) (fun _=>True) (fun v=>Az v 3 (AG .i64) (Sc.nints (Sc.fg m.T))::z.H m):=by
 intro w hE hH
 refine Ey func43 I hH ?_
 refine Cs I (Ak I (Cs I (Lm I (Lc I (Lfa Co I Z97 I (Lo G97 0 I (DS (l_e I (H7 (Sc.runnable_spec k.tok z.bt) I I I call76 I Tt (fun v _=>Ak I (Af (Pm [0,1,1,1] I (An I I ?_)))))))))))))
 exact fun _ h=>⟨v,rfl,trivial,h⟩
theorem OH (l:List Evt) (hn:l.length<=65536):Con prog 45 [va] (fun w=>RdV w va Evt.enc l) [] (fun v:Value=>v) (fun _=>True) (fun v=>[Az v 71 Evt.enc l]):=by
 intro w hl hH
 obtain⟨a,c,rfl⟩:=F0 hl
 refine E0 func45 I hH ?_
 refine Cs I (Ak I (Ag (Cs I (Lm I (Lq I (Fv I U34 I I) (Nk ?_))))))
 refine Pre.caseB 4 I (fun hn=>?_) (fun hn=>?_)
 · rw[jJ] at hn
   subst hn
   have hl0:=EB hl
   subst hl0
   refine Ai I (Cs I (Ak I (Af (Aa (row0 71 Evt.enc none (An I I ?_))))))
   exact fun _ h=>⟨_,rfl,trivial,h⟩
 · refine Ab I (Ae (Kt (Cs I (l_e I (Ax (sz:=22) [] I I I I I U34 Z71 I zeroValue71 I (fun b=>rowLit Evt.enc [] I I (Lm I (l_e I (Ap U34 U34 Pp I (fun _ h=>hl.keep h (by simp)) (by simp only[fL,fv,jn];omega) (fun v=>Ak I (Af ?_)))))))))))
   rw[gO]
   refine An I I ?_
   exact fun _ h=>⟨v,rfl,trivial,h⟩
theorem MM {z:HC} {m:HM} (k:HOk z m B):Con prog 15 [ptV z.bH] (fun _=>True) (z.H m) (fun v:Value=>v) (fun _=>True) (fun v=>Az v 71 Evt.enc m.ev::z.H m):=by
 intro w hE hH
 refine Ey func15 I hH ?_
 refine Cs I (Ak I (Cs I (Lm I (Lc I (Lfa Co I Z34 I (Lo isAgg34 0 I (l_e I (AX (OH m.ev (by have:=k.ev;have:=k.lh.ok.b9;omega)) I I I call45 I (Hrd 1 I) (fun v _=>Ak I (Af (An I I ?_)))))))))))
 exact fun _ h=>⟨v,rfl,trivial,h⟩
theorem Qa {z:HC} {m:HM} (k:HOk z m B):Con prog 12 [ptV z.bH] (fun _=>True) (z.H m) (fun _:Unit=>.bool (m.cs.all Cl.ended)) (fun _=>True) (fun _=>z.H m):=by
 intro w hE hH
 have htl:=k.tlen
 have h8:m.T.n<=8:=by rw[k.tn];exact k.n8
 have htn:=k.tn
 refine Ey func12 I hH ?_
 refine Cs I (Ak I (Ag (Cs I (Lm I (Lc I (Lfa Co I Z98 I (Lo G98 0 I (Lq I (AL I U98 I (Hrd 2 I)) (Lm I (Nk (Al ?_)))))))))))
 refine Bc (fun (i:Nat)=>[(0,ptV z.bH),(10,z.vT),(11,.int .i64 (z.tks.length:Int)),(12,.int .i64 (i:Int))]) (fun (i:Nat)=>St w (dom (z.H m)) (z.H m)) (fun (i:Nat)=>i<=z.tks.length/\∀c∈m.cs.take i,c.ended=true) (fun (i:Nat)=>z.tks.length-i) (0) ⟨gb _,by simp⟩ (Si I) Ih (fun i hp=>Ag ?_)
 obtain⟨hi,hen⟩:=hp
 refine Cr I (Lq I (Ql I) (Ns ?_))
 refine CB 13 I (fun hlt=>?_) (fun hlt=>?_)
 · obtain⟨a,ha⟩:∃a,z.tks[i]?=some a:=⟨_,fD (by omega)⟩
   rcases k.tk ha with⟨c,hc,rfl⟩|⟨b,hb,hfb,rfl⟩|⟨he,rfl⟩
   · have hcm:=k.at hc
     refine Ai I (Ae (Ks (Al (Cs I (Lq I (As i I U98 GX I (Hrd 2 I) I I (by omega)) (Lq I (AI i 0 I Ja I I (Hrd 2 I) ha I) (Ak I (Cs I (Lm I (Lq rfl (Cw rfl Ia (fun _ h=>by cases h) rfl) (Lm I (Lq I (Qx I) (Lq I (Qx I) (Las I (Ak I (Cs I (Lm I (Lm I (Lm I (l_e I (Ee [] (Kr k hc) I call37 Tt (fun _ _=>Pw (St _ _ (HC.H z m)) ?_))))))))))))))))))))))
     refine Lq I (Qt I) (Lq I (Qy I) (Nk ?_))
     refine CB 26 I (fun hce=>?_) (fun hce=>?_)
     · refine Ai I (Cs I (Ak I (Af (Am (Aa (Aa (Am (Aa (An I I ?_)))))))))
       exact fun _ h=>⟨(),congrArg (fun z=>Ending.returned (Value.bool z)) (by symm;rw[j9];exact⟨c.m,hY hcm,by rw[hce];decide⟩),trivial,h⟩
     · refine Ab I (Ae (Aw (Kt (Cr I (Lq I (Qi I (by omega)) (Lm I (AB ?_)))))))
       exact AD (i+1) (by omega) ⟨by omega,fun d hd=>by
        rw[jd,hcm] at hd
        rcases ib.1 hd with e|e
        · exact hen d e
        · simp at e;rw[e];exact hce⟩ (Si I) (fun _ h=>h)
   · have hno:m.cs[i]?=none:=fI (by omega)
     refine Ai I (Ae (Ks (Al (Cs I (Lq I (As i I U98 GX I (Hrd 2 I) I I (by omega)) (Lq I (AI i 0 I Ja I I (Hrd 2 I) ha I) (Ak I (Cs I (Lm I (Lq rfl (CO rfl Ia (fun _ h=>by cases h) rfl (by decide) zeroValue103) (Lm I (Lq I (Qx I) (Lq I (Qx I) (Las I (Ak I (Cs I (Lm I (Lm I (Lx I (Lx I (Lx I (Lq I (Qz I) (Nk ?_)))))))))))))))))))))))
     refine Ab I (Ae (Aw (Kt (Cr I (Lq I (Qi I (by omega)) (Lm I (AB ?_)))))))
     exact AD (i+1) (by omega) ⟨by omega,fun d hd=>hen d (by rw[jd,hno] at hd;simpa using hd)⟩ (Si I) (fun _ h=>h)
   · have hno:m.cs[i]?=none:=fI (by omega)
     refine Ai I (Ae (Ks (Al (Cs I (Lq I (As i I U98 GX I (Hrd 2 I) I I (by omega)) (Lq I (AI i 0 I Ja I I (Hrd 2 I) ha I) (Ak I (Cs I (Lm I (Lq rfl (CO rfl Ia (fun _ h=>by cases h) rfl (by decide) zeroValue103) (Lm I (Lq I (Qx I) (Lq I (Qx I) (Las I (Ak I (Cs I (Lm I (Lm I (Lx I (Lx I (Lx I (Lq I (Qz I) (Nk ?_)))))))))))))))))))))))
     refine Ab I (Ae (Aw (Kt (Cr I (Lq I (Qi I (by omega)) (Lm I (AB ?_)))))))
     exact AD (i+1) (by omega) ⟨by omega,fun d hd=>hen d (by rw[jd,hno] at hd;simpa using hd)⟩ (Si I) (fun _ h=>h)
 · refine Ab I (AO (Ac (Ac (Ar (Kt (Cs I (Ak I (Af (An I I ?_)))))))))
   exact fun _ h=>⟨(),congrArg (fun z=>Ending.returned (Value.bool z)) (by symm;rw[iD];intro c hc;exact hen c (by rw[fZ (by omega)];exact hc)),trivial,h⟩
theorem dP {z:HC} {m:HM} (k:HOk z m B) {vp:Value} (picks:List Int) (hpl:picks.length<=9223372036854775807) (i:Nat) (hi:i<=1000000):Con prog 14 [ptV z.bH,vp,.int .i64 (i:Int)] (fun w=>RdV w vp (AG .u8) picks) (z.H m) (fun n:Int=>.int .i64 n) (fun _=>True) (fun _=>z.H m):=by
 intro w hE hH
 have htn:m.T.n<=8:=by rw[k.tn];exact k.n8
 have hrl:(Sc.nints (Sc.fg m.T)).length<=8:=by
  have h1:(Sc.nints (Sc.fg m.T)).length<=m.T.n:=by
   unfold Sc.nints Sc.fg
   rw[gS]
   exact gF (jL _ _) (by rw[jO];exact ga _)
  omega
 refine enter (n:=50) (vs:=[ptV z.bH,vp,.int .i64 (i:Int)]) (fun w2=>St w (dom (z.H m)) (z.H m) w2/\RdV w2 vp (AG .u8) picks) func14 I I I ⟨St.init hH,hE⟩ ?_
 refine Cs I (Ak I (Ag (Cs I (Lm I (Lq I (Bh I I I (by omega) (by omega)) (Lq I (Qe I) (Lm I ?_)))))))
 refine CB 13 I (fun h1=>?_) (fun h1=>?_)
 · refine Lm I (Lq I (AL I U23 I (fun _ h=>h.2)) (Lq I (BS I I I) (Lq I (Qy I) (Nk ?_))))
   refine CB 17 I (fun h2=>?_) (fun h2=>?_)
   · have hj:i/2%picks.length<picks.length:=gg _ (by omega)
     refine Ai I (Cs I (Lm I (Lm I (Lq I (Br I I I (by omega) (by omega) (by omega)) (Lm I (Lq I (AL I U23 I (fun _ h=>h.2)) (Lq I (Bh I I I (by omega) (by omega)) (Lq I (As (i/2%picks.length) I U23 Z5 I (fun _ h=>h.2) I (by simp) hj) ?_))))))))
     refine l_q I (AI (i/2%picks.length) 0 I G5 I I (fun _ h=>h.2) (fD hj) I) I I ?_
     refine Lq I (GR I U5 U3 I) (Ak I (Af (Aa (An I I ?_))))
     exact fun _ h=>⟨_,rfl,trivial,h.1⟩
   · refine Ab I (Ae (Ks ?_))
     refine Pre.world (St w (dom (z.H m)) (z.H m)) (fun _ h=>h.1) ?_
     refine Cr I (Lm I (l_e I (Ee [] (dO k) I call43 Tt (fun v _=>Pw (St _ _ (_::HC.H z m)) ?_))))
     refine Ak I (Cs I (Ak I (Ag (Cs I (Ak I (Al ?_))))))
     refine CN (fun (j:Nat) (a:Nat)=>[(0,ptV z.bH),(7,v),(8,.int .i64 (a:Int)),(9,.int .i64 (j:Int))]) (fun (j:Nat) (a:Nat)=>St w (dom (z.H m)) (Az v 3 (AG .i64) (Sc.nints (Sc.fg m.T))::z.H m)) (fun (j:Nat) (a:Nat)=>a<=j) (fun (j:Nat) (a:Nat)=>(Sc.nints (Sc.fg m.T)).length-j) (0) (0) (ga _) (Si I) Ih (fun j a haj=>Ag (Cs I (Lm I (Lm I (Lq I (AL I U22 I (Hrd 0 I)) (Lq I (Ql I) (Nk ?_)))))))
     refine CB 32 I (fun hlt=>?_) (fun hlt=>?_)
     · have hjl:j<(Sc.nints (Sc.fg m.T)).length:=by omega
       have hal:a<(Sc.nints (Sc.fg m.T)).length:=by omega
       refine Ai I (Ae (Ks (Al (Ag (Do8 [0,1,2,3,4,6,7,8,9,10,5,11,12] 1476225 (fun w2=>RdV w2 v (AG .i64) (Sc.nints (Sc.fg m.T))) I St.drawn (Hrd 0 I) (Dm I (Dm I (Dm I (Dq I (As j I U22 Z3 I Ih I I (by omega)) ?_)))))))))
       refine d_q I (AI j 0 I G3 I I (fun _ h=>h) (fD hjl) I) I I ?_
       refine Dm I (Dm I (Dm I (Dq I (As a I U22 Z3 I Ih I I (by omega)) ?_)))
       refine d_q I (AI a 0 I G3 I I (fun _ h=>h) (fD hal) I) I I ?_
       refine d_e I (Ee [_] (RD k _) I call44 Tt (fun n0 _=>Pw (St _ _ (_::HC.H z m)) ?_))
       refine Aj (Hrd 0 I) (d_t I (Ee [_] (RD k _) I call44 Tt (fun n1 _=>Pw (St _ _ (_::HC.H z m)) ?_)))
       refine d_t I (e_q I I (BS I I I) (AK (Kt ?_)))
       refine CB 47 I (fun hg=>?_) (fun hg=>?_)
       · refine Ai I (Cr I (Lm I (Las I (AB (Aw (Kt (Cr I (Lm I (Lq I (Qi I (by omega)) (Las I (AB ?_)))))))))))
         exact AD ((j+1,j)) (by dsimp only;omega) (by dsimp only;omega) (Si I) (fun _ h=>h)
       · refine Ab I (Ae (Aw (Kt (Cr I (Lm I (Lq I (Qi I (by omega)) (Las I (AB ?_))))))))
         exact AD ((j+1,a)) (by dsimp only;omega) (by dsimp only;omega) (Si I) (fun _ h=>h)
     · refine Ab I (AO (Ac (Ac (Ar (Kt (Cs I (Lm I (Ak I (Af (Av (An I I ?_)))))))))))
       exact fun _ h=>⟨_,rfl,trivial,h⟩
 · refine Pre.world (St w (dom (z.H m)) (z.H m)) (fun _ h=>h.1) ?_
   refine Lx I (Lx I (Lx I (Lq I (Qz I) (Nk (Ab I (Ae (Kt (Cs I (Lm I (l_e I (Ee [] (dO k) I call43 Tt (fun v _=>Pw (St _ _ (_::HC.H z m)) ?_))))))))))))
   refine Ak I (Cs I (Ak I (Ag (Cs I (Ak I (Al ?_))))))
   refine CN (fun (j:Nat) (a:Nat)=>[(0,ptV z.bH),(7,v),(8,.int .i64 (a:Int)),(9,.int .i64 (j:Int))]) (fun (j:Nat) (a:Nat)=>St w (dom (z.H m)) (Az v 3 (AG .i64) (Sc.nints (Sc.fg m.T))::z.H m)) (fun (j:Nat) (a:Nat)=>a<=j) (fun (j:Nat) (a:Nat)=>(Sc.nints (Sc.fg m.T)).length-j) (0) (0) (ga _) (Si I) Ih (fun j a haj=>Ag (Cs I (Lm I (Lm I (Lq I (AL I U22 I (Hrd 0 I)) (Lq I (Ql I) (Nk ?_)))))))
   refine CB 32 I (fun hlt=>?_) (fun hlt=>?_)
   · have hjl:j<(Sc.nints (Sc.fg m.T)).length:=by omega
     have hal:a<(Sc.nints (Sc.fg m.T)).length:=by omega
     refine Ai I (Ae (Ks (Al (Ag (Do8 [0,1,2,3,4,6,7,8,9,10,5,11,12] 1476225 (fun w2=>RdV w2 v (AG .i64) (Sc.nints (Sc.fg m.T))) I St.drawn (Hrd 0 I) (Dm I (Dm I (Dm I (Dq I (As j I U22 Z3 I Ih I I (by omega)) ?_)))))))))
     refine d_q I (AI j 0 I G3 I I (fun _ h=>h) (fD hjl) I) I I ?_
     refine Dm I (Dm I (Dm I (Dq I (As a I U22 Z3 I Ih I I (by omega)) ?_)))
     refine d_q I (AI a 0 I G3 I I (fun _ h=>h) (fD hal) I) I I ?_
     refine d_e I (Ee [_] (RD k _) I call44 Tt (fun n0 _=>Pw (St _ _ (_::HC.H z m)) ?_))
     refine Aj (Hrd 0 I) (d_t I (Ee [_] (RD k _) I call44 Tt (fun n1 _=>Pw (St _ _ (_::HC.H z m)) ?_)))
     refine d_t I (e_q I I (BS I I I) (AK (Kt ?_)))
     refine CB 47 I (fun hg=>?_) (fun hg=>?_)
     · refine Ai I (Cr I (Lm I (Las I (AB (Aw (Kt (Cr I (Lm I (Lq I (Qi I (by omega)) (Las I (AB ?_)))))))))))
       exact AD ((j+1,j)) (by dsimp only;omega) (by dsimp only;omega) (Si I) (fun _ h=>h)
     · refine Ab I (Ae (Aw (Kt (Cr I (Lm I (Lq I (Qi I (by omega)) (Las I (AB ?_))))))))
       exact AD ((j+1,a)) (by dsimp only;omega) (by dsimp only;omega) (Si I) (fun _ h=>h)
   · refine Ab I (AO (Ac (Ac (Ar (Kt (Cs I (Lm I (Ak I (Af (Av (An I I ?_)))))))))))
     exact fun _ h=>⟨_,rfl,trivial,h⟩
def DM:Enc Sv:=⟨1,fun s=>[s.v],fun _=>rfl,fun a u h=>by simp at h;subst h;rfl,by decide⟩
structure RRo (w:World) (v:Value) (vs:List Sv) (ls:List (List Opn)):Prop where
 o:RdV w v DM vs
 len:vs.length=ls.length
 i:∀(i:Nat) (s:Sv) (l:List Opn),vs[i]?=some s->ls[i]?=some l->RdV w s.v Opn.enc l
theorem RRo.keep {w0 w:World} {v:Value} {H:List Ent} (h:RRo w0 v vs ls) (s:St w0 [] H w):RRo w v vs ls:=⟨h.o.keep s (by simp),h.len,fun i a l h1 h2=>(h.i i a l h1 h2).keep s (by simp)⟩
def RWs:List Sv->List (List Opn)->List Ent
 |s::vs,l::ls=>Az s.v 43 Opn.enc l::RWs vs ls
 |_,_=>[]
theorem OI:∀(vs:List Sv) (ls:List (List Opn)) (s:Sv) (l:List Opn),vs.length=ls.length->RWs (vs++[s]) (ls++[l])=RWs vs ls++[Az s.v 43 Opn.enc l]
 |[],[],_,_,_=>rfl
 |[],_::_,_,_,h=>by simp at h
 |_::_,[],_,_,h=>by simp at h
 |a::vs,b::ls,s,l,h=>by
  show Az a.v 43 Opn.enc b::RWs (vs++[s]) (ls++[l])=_
  rw[OI vs ls s l (by simpa using h)];rfl
theorem V8:∀(vs:List Sv) (ls:List (List Opn)) (i:Nat) (s:Sv) (l:List Opn),vs[i]?=some s->ls[i]?=some l->RWs (vs.drop i) (ls.drop i)=Az s.v 43 Opn.enc l::RWs (vs.drop (i+1)) (ls.drop (i+1)):=fun vs ls i s l h1 h2=>by
 obtain⟨a,rfl⟩:=gl.1 h1
 obtain⟨b,rfl⟩:=gl.1 h2
 rw[fA a,fA b];rfl
theorem OJ:∀(k:Nat) (cc:List CC) (c:CC),CLs k (cc++[c])=CLs k cc++c.H ((k+cc.length:Nat):Int)
 |k,[],c=>by show c.H _++[]=_;rw[jc];rfl
 |k,a::cc,c=>by
  show a.H _++CLs (k+1) (cc++[c])=_
  rw[OJ (k+1) cc c,fv,show k+1+cc.length=k+(cc.length+1) by omega,<-gK];rfl
theorem OK:∀(k:Nat) (fl:List Nat) (b:Nat),FLs k (fl++[b])=FLs k fl++[FLE b ((k+fl.length:Nat):Int)]
 |k,[],b=>rfl
 |k,a::fl,b=>by
  show FLE a _::FLs (k+1) (fl++[b])=_
  rw[OK (k+1) fl b,fv,show k+1+fl.length=k+(fl.length+1) by omega];rfl
def cc0 (b:Nat) (s:Sv) (l:List Opn):CC:=⟨b,s.v,0,0,⟨l,0,.idle⟩⟩
theorem Tn (p:List Ent) (cc:List CC) (b:Nat) (s:Sv) (l:List Opn) (R:List Ent):(p++(CLE b s.v 0 [.pointer none,.pointer none]::(CLs 0 cc++(Az s.v 43 Opn.enc l::R)))).Perm (p++(CLs 0 (cc++[cc0 b s l])++R)):=by
 rw[OJ]
 refine List.Perm.append_left p ?_
 rw[gK]
 exact (kl [CLE b s.v 0 [.pointer none,.pointer none]] (CLs 0 cc) (Az s.v 43 Opn.enc l::R))
theorem To (p:List Ent) (C:List Ent) (k:Nat) (fl:List Nat) (b:Nat) (R:List Ent):(p++(FLE b ((k+fl.length:Nat):Int)::(C++(FLs k fl++R)))).Perm (p++(C++(FLs k (fl++[b])++R))):=by
 rw[OK]
 refine List.Perm.append_left p ?_
 refine (kl [FLE b ((k+fl.length:Nat):Int)] C (FLs k fl++R)).trans (List.Perm.append_left C ?_)
 rw[gK]
 exact kl [_] (FLs k fl) R
theorem LI {α:Type} {l:List α} {a:α} (h:l[i]?=some a):l.take (i+1)=l.take i++[a]:=by rw[jd,h];rfl
theorem OL (l:List Opn) (hn:l.length<=65536):Con prog 104 [va] (fun w=>RdV w va Opn.enc l) [] (fun v:Value=>v) (fun _=>True) (fun v=>[Az v 43 Opn.enc l]):=by
 intro w hl hH
 obtain⟨a,c,rfl⟩:=F0 hl
 refine E0 func104 I hH ?_
 refine Cs I (Ak I (Ag (Cs I (Lm I (Lq I (Fv I U40 I I) (Nk ?_))))))
 refine Pre.caseB 4 I (fun hn=>?_) (fun hn=>?_)
 · rw[jJ] at hn
   subst hn
   have hl0:=EB hl
   subst hl0
   refine Ai I (Cs I (Ak I (Af (Aa (row0 43 Opn.enc none (An I I ?_))))))
   exact fun _ h=>⟨_,rfl,trivial,h⟩
 · refine Ab I (Ae (Kt (Cs I (l_e I (Ax (sz:=4) [] I I I I I U40 Z43 I zeroValue43 I (fun b=>rowLit Opn.enc [] I I (Lm I (l_e I (Ap U40 U40 JE I (fun _ h=>hl.keep h (by simp)) (by simp only[fL,fv,jn];omega) (fun v=>Ak I (Af ?_)))))))))))
   rw[gO]
   refine An I I ?_
   exact fun _ h=>⟨v,rfl,trivial,h⟩
theorem Yz (hn:vs.length<=8) (hol:∀l∈ls,l.length<=1000):Con prog 51 [vo] (fun w=>RRo w vo vs ls) [] (fun r:Value×List Sv=>r.1) (fun r=>r.2.length=ls.length) (fun r=>Az r.1 40 DM r.2::RWs r.2 ls):=by
 intro w hE hH
 have hlen:=hE.len
 refine E0 func51 I hH ?_
 refine Cs I (Ak I (Cs I (Ak I (Ag (Cs I (Lm I (Lq I (AL I U25 I (fun _ h=>hE.o.keep h (by simp[dom]))) (Lm I (Nk (Al (row0 40 DM none ?_)))))))))))
 refine E3 (fun (i:Nat) (vr:Value) (us:List Sv)=>[(0,vo),(3,vr),(6,vo),(7,.int .i64 (vs.length:Int)),(8,.int .i64 (i:Int))]) (fun (i:Nat) (vr:Value) (us:List Sv)=>St w [] (Az vr 40 DM us::RWs us (ls.take i))) (fun (i:Nat) (vr:Value) (us:List Sv)=>i<=vs.length/\us.length=i) (fun (i:Nat) (vr:Value) (us:List Sv)=>vs.length-i) (0) (Cg) ([]) ⟨gb _,rfl⟩ (Si I) Ih (fun i vr us hp=>Ag ?_)
 obtain⟨hi,hul⟩:=hp
 refine Cr I (Lq I (Ql I) (Ns ?_))
 refine CB 9 I (fun hlt=>?_) (fun hlt=>?_)
 · obtain⟨s,hs⟩:∃s,vs[i]?=some s:=⟨_,fD (by omega)⟩
   obtain⟨l,hl⟩:∃l,ls[i]?=some l:=⟨_,fD (by omega)⟩
   have hll:=hol l (hY hl)
   have hts:=LI hl
   refine Ai I (Ae (Ks (Al (Cs I (Lq I (As i I U25 Z40 I (fun _ h=>hE.o.keep h (by simp[dom])) I I (by omega)) (Lq I (AI i 0 I G40 I I (fun _ h=>hE.o.keep h (by simp[dom])) hs I) (Ak I (Cr I (Lm I (Lm I (l_e I (AX (OL l (by omega)) I I I call104 I (fun _ h=>(hE.i i s l hs hl).keep h (by simp)) (fun v2 _=>Pre.fact (fun _ h=>FL (h.rd 0 I)) ?_)))))))))))))
   rintro⟨s2,rfl⟩
   refine l_e I (Ax (sz:=1) [.tmp 14] I I I I I U25 Z40 I zeroValue40 I (fun b1=>AV (l_e I (Ap U25 U25 Ud I (fun _ h=>AW (h.at 1 I) DM [s2] I I) (by simp only[fL,fv,jn];omega) (fun v3=>AM (Av (Las I (AB (Aw (Kt (Cr I (Lq I (Qi I (by omega)) (Lm I (AB ?_))))))))))))))
   exact AD ((i+1,v3,us++[s2])) (by dsimp only;omega) ⟨by dsimp only;omega,by simp[hul]⟩ (Si I) (fun _ h=>by
    dsimp only
    rw[hts,OI us (ls.take i) s2 l (by rw[fJ];omega)]
    exact h.perm (List.Perm.cons _ (js (l₁:=[_]))))
 · refine Ab I (AO (Ac (Ac (Ar (Kt (Cs I (Lm I (Ak I (Af (An I I ?_))))))))))
   exact fun _ h=>⟨(vr,us),rfl,by dsimp only;omega,by rw[fZ (by omega)] at h;exact h⟩
theorem bG {nb nf fl:Nat} (hb1:1<=nb) (hb2:nb<=256) (hf3:fl<=3) (hn1:1<=ls.length) (hn4:ls.length<=4) (hfr:4*(ls.length+fl)<nf) (hf64:nf<=64) (hol:∀l∈ls,l.length<=24) (hkd:∀l∈ls,∀o∈l,1<=o.kind/\o.kind<=4):Con prog 49 [.agg #[.int .i64 (nb:Int),.int .i64 (nf:Int),.int .i64 (fl:Int),vo]] (fun w=>RRo w vo vs ls) [] (fun _:Unit=>.int .i64 0) (fun _=>True) (fun _=>[]):=by
 intro w hE hH
 have hlen:=hE.len
 refine E0 func49 I hH ?_
 refine Cs I (l_e I (AQ I I I I (fun bc=>Ce [.int .i64 (nb:Int),.int .i64 (nf:Int),.int .i64 (fl:Int),vo] I (Ak I (Cs I (Lfa U27 I Z25 I (Lo isAgg25 0 I (Lq I (AL I U25 I (fun _ h=>hE.o.keep h (by simp[dom]))) (Ak I (Cs I (Lfa U27 I Z3 I (Lo G3 0 I (Lq I (Qg I) (Lm I (Sb 15 true I (by first|rfl|(simp only[ia,im];omega)|(simp;omega)) (Lfa U27 I Z3 I (Lo G3 0 I (Lq I (Hk I I I) (Lq I (Qy I) (Lm I (Sb 20 true I (by first|rfl|(simp only[ia,im];omega)|(simp;omega)) (Lfa U27 I Z3 I (Lo G3 0 I (Lq I (Qg I) (Lq I (Qy I) (Lm I ?_))))))))))))))))))))))))))
 refine Sb 25 true I (by first|rfl|(simp only[ia,im];omega)|(simp;omega)) (Lfa U27 I Z3 I (Lo G3 0 I (Lq I (Hk I I I) (Lq I (Qy I) (Lm I (Sb 30 true I (by first|rfl|(simp only[ia,im];omega)|(simp;omega)) (Lm I (Lq I (Qg I) (Lq I (Qy I) (Lm I (Sb 34 true I (by first|rfl|(simp only[ia,im];omega)|(simp;omega)) (Lm I (Lq I (Hk I I I) (Lq I (Qy I) (Ak I (Ag (Cs I (Lm I (Lq I (Qt I) (Lm I (Sb 40 false I (by first|rfl|(simp only[ia,im];omega)|(simp;omega)) (Lfa U27 I Z3 I (Lo G3 0 I ?_)))))))))))))))))))))))
 refine Lm I (Lfa U27 I Z3 I (Lo G3 0 I (Lq I (Bf I I I (by omega)) (Lq I (Gl I I I (by omega)) (Lq I (Hk I I I) (Lq I (Qz I) (Lm I (Sb 50 false I (by first|rfl|(simp only[ia,im];omega)|(simp;omega)) (Lfa U27 I Z3 I (Lo G3 0 I (Lq I (BS I I I) (Lq I (Qz I) (Nk (Sb 54 false I (by first|rfl|(simp only[ia,im];omega)|(simp;omega)) (Ab I (Ae (Ks (Cs I (Lfa U27 I Z25 I (Lo isAgg25 0 I (Lq I (AL I U25 I (fun _ h=>hE.o.keep h (by simp[dom]))) (Lm I (Nk ?_)))))))))))))))))))))))
 refine Al (Sv' 4 (.bool true) I (congrArg Value.bool (jq (by omega))) ?_)
 refine Bc (fun (i:Nat)=>[(4,.bool true),(56,vo),(57,.int .i64 (vs.length:Int)),(58,.int .i64 (i:Int))]) (fun (i:Nat)=>St w [] []) (fun (i:Nat)=>i<=vs.length) (fun (i:Nat)=>vs.length-i) (0) (gb _) (Si I) (fun _ h=>h.e8) (fun i hi=>Cs I (Lq I (Ql I) (Ns ?_)))
 refine CB 59 I (fun hlt=>?_) (fun hlt=>?_)
 · obtain⟨s,hs⟩:∃s,vs[i]?=some s:=⟨_,fD (by omega)⟩
   obtain⟨l,hl⟩:∃l,ls[i]?=some l:=⟨_,fD (by omega)⟩
   have hll:=hol l (hY hl)
   have hlk:=hkd l (hY hl)
   have hrl:=hE.i i s l hs hl
   refine Ai I (Ae (Ks (Al (Cs I (Lq I (As i I U25 Z40 I (fun _ h=>hE.o.keep h (by simp[dom])) I I (by omega)) (Lq I (AI i 0 I G40 I I (fun _ h=>hE.o.keep h (by simp[dom])) hs I) (Ak I (Ag (Cs I (Lm I (Lq I (AL I U40 I (fun _ h=>hrl.keep h (by simp[dom]))) (Lm I (Nk (Al ?_))))))))))))))
   refine Bc (fun (j:Nat)=>[(4,.bool true),(6,s.v),(56,vo),(57,.int .i64 (vs.length:Int)),(58,.int .i64 (i:Int)),(62,s.v),(63,.int .i64 (l.length:Int)),(64,.int .i64 (j:Int))]) (fun (j:Nat)=>St w [] []) (fun (j:Nat)=>j<=l.length) (fun (j:Nat)=>l.length-j) (0) (gb _) (Si I) Ih (fun j hj=>Cs I (Lq I (Ql I) (Ns ?_)))
   refine CB 65 I (fun hjl=>?_) (fun hjl=>?_)
   · obtain⟨o,ho⟩:∃o,l[j]?=some o:=⟨_,fD (by omega)⟩
     have hok:=hlk o (hY ho)
     refine Ai I (Ae (Ks (Al (Cs I (Lq I (As j I U40 Z43 I (fun _ h=>hrl.keep h (by simp[dom])) I I (by omega)) (Lq I (AU j I G43 Z43 I I (fun _ h=>hrl.keep h (by simp[dom])) ho) (l_e I (Au I I I zeroValue43 (fun bo=>Ce [.int .i64 0,.string ⟨#[]⟩,.string ⟨#[]⟩,.int .u64 0] I (l_e I (Ah I I Z43 I I I (Opn.one o) (by show 0+4<=4;decide) (Ce (Opn.c o) (Sep.e7 I) (Nk (Cr I (Lm I (Lm I (Lfa U43 I Z3 I (Lo G3 0 I (Lq I (Qg I) (Lq I (Qy I) (Lm I (Sb 74 true I (by first|rfl|(simp only[ia];omega)|exact jq (by omega)) (Lfa U43 I Z3 I (Lo G3 0 I (Lq I (Hk I I I) (Lq I (Qy I) (Las I (AB (Aw (Kt (Cr I (Lq I (Qi I (by omega)) ?_))))))))))))))))))))))))))))))))
     refine Lm I (AB (Sv' 4 (.bool true) I (congrArg Value.bool (jq (by omega))) ?_))
     exact AD (j+1) (by omega) (by omega) (Si I) (fun _ h=>h.e8)
   · refine Ab I (AO (Ac (Ac (Ar (Kt (Cs I (Lm I (Lq I (Qt I) (Lm I (Lm I (Lq I (AL I U40 I (fun _ h=>hrl.keep h (by simp[dom]))) (Lq I (BS I I I) (Lq I (Qz I) (Nk (Sb 86 false I (by first|rfl|(simp only[im];omega)|(simp;omega)) (Ab I (Ae (Aw (Kt (Cr I (Lq I (Qi I (by omega)) (Lm I (AB ?_)))))))))))))))))))))))
     exact AD (i+1) (by omega) (by omega) (Si I) (fun _ h=>h)
 · refine Ab I (AO (Ac (Ac (Ar (Kt (Cs I (Ak I (Af (An I I ?_)))))))))
   exact fun _ h=>⟨(),rfl,trivial,h⟩
def cl0 (l:List Opn):Cl:=⟨l,0,.idle⟩
def hm0 (nb nf fl:Nat) (ls:List (List Opn)):HM:=⟨MH nb nf,ls.map cl0,fl,1,0,[],Sc.newM (ls.length+(fl+1))⟩
def hmS (nb nf fl:Nat) (ls:List (List Opn)):HM:=(hm0 nb nf fl ls).setT (fb (hm0 nb nf fl ls) (ls.length+(fl+1)) (Sc.newM (ls.length+(fl+1))))
theorem bI {bH bt:Nat} {vT vO vE:Value} {cc:List CC} {fs:List Nat} (hx:GH x (MH nb nf) 0) (hc:cc.map CC.m=ls.map cl0) (hf:fs.length=fl) (h8:ls.length+(fl+1)<=8) (hol:∀l∈ls,l.length<=1000):HOk ⟨bH,bt,vT,vO,vE,cc,fs,x⟩ (hm0 nb nf fl ls) 0 :=
 ⟨hx,hc,hf,by show _=(ls.map cl0).length+_;rw[gS];rfl,Sc.new_ok (by omega) h8,by show (ls.map cl0).length+_<=8;rw[gS];exact h8,fun c hc=>by
  obtain⟨l,hl,rfl⟩:=gj.1 hc
  exact⟨hol l hl,gb _,fun h=>by cases h⟩,ga 0,⟨by show (1:Int)<=1;omega,by show (1:Int)<=_;omega⟩,ga 0⟩
def ctk (c:CC):Tk:=Tk.c c.b
theorem bJ (h:HC):h.tks=h.cc.map ctk++h.fl.map Tk.f++[Tk.e]:=by unfold HC.tks;rw[gK];rfl
theorem YA:∀(us:List Sv) (ls:List (List Opn)),us.length=ls.length->RWs (us.drop ls.length) (ls.drop ls.length)=[]:=fun us ls h=>by
 rw[kB (by omega),kB (by omega)];rfl
theorem eK (nf:Nat) (b:Int) (hb:b≠-1):(mo0 nf).frI b 2=none:=by
 unfold Mo.frI
 have:(mo0 nf).find b=none:=by
  refine C3 (fun z hz=>?_)
  rw[(ic.1 (show z∈List.replicate nf BG from hz)).2]
  unfold isB BG
  simp[iA hb]
 rw[this]
theorem YB (h1:1<=nb):DA (MH nb nf):=by
 have hf:(MH nb nf).M.frI 0 2=none:=eK nf 0 (by decide)
 have hl:(MH nb nf).look=ndL:=by unfold Hm.look;rw[hf]
 refine⟨rfl,by rw[hl];rfl,by rw[hl];exact JP _,?_,fun _=>⟨bkL,?_,rfl⟩⟩
 · show ((List.replicate nb false).set 0 true)[0]?=some true
   rw[jV (by rw[jB];omega)]
 · show (((List.replicate nb Bk.zero).set 0 Bk.zero).set 0 bkL)[0]?=some bkL
   rw[jV (by rw[je,jB];omega)]
theorem eN (t:Int):Con prog 52 [.int .i64 t] (fun _=>True) [] (fun bf:Nat=>ptV bf) (fun _=>True) (fun bf=>[FLE bf t]):=by
 intro w hE hH
 refine E0 func52 I hH ?_
 refine Cs I (Ak I (Cs I (Lm I (Lq I (AN ([.int .i64 t,.int .i64 1,.bool false,.bool false,.pointer none,.int .i64 0,.int .i64 0]) I I (fun w=>by kernel_rfl)) (l_e I (AQ I I I I (fun bf=>Ce [.int .i64 t,.int .i64 1,.bool false,.bool false,.pointer none,.int .i64 0,.int .i64 0] I (Ak I (Af (An I I ?_))))))))))
 exact fun _ h=>⟨bf,rfl,trivial,h⟩
theorem Zq {nb nf fl:Nat} (hb1:1<=nb) (hb2:nb<=256) (hf3:fl<=3) (hn1:1<=ls.length) (hn4:ls.length<=4) (hfr:4*(ls.length+fl)<nf) (hf64:nf<=64) (hol:∀l∈ls,l.length<=24) (hkd:∀l∈ls,∀o∈l,1<=o.kind/\o.kind<=4):Con prog 18 [.agg #[.int .i64 (nb:Int),.int .i64 (nf:Int),.int .i64 (fl:Int),vo]] (fun w=>RRo w vo vs ls) [] (fun y:HC=>.tuple #[ptV y.bH,.int .i64 0]) (fun y=>HOk y (hmS nb nf fl ls) 0) (fun y=>y.H (hmS nb nf fl ls)):=by
 intro w hE hH
 have hlen:=hE.len
 refine E0 func18 I hH ?_
 refine Cs I (l_e I (AQ I I I I (fun bc=>Ce [.int .i64 (nb:Int),.int .i64 (nf:Int),.int .i64 (fl:Int),vo] I (Las I (Ak I (Ag (Cs I (Lq I (Cq ([.int .i64 (nb:Int),.int .i64 (nf:Int),.int .i64 (fl:Int),vo]) G27 Z27 0 I (I) (I)) (l_e I (E1 (bG hb1 hb2 hf3 hn1 hn4 hfr hf64 hol hkd) I call49 (fun _ h=>hE.keep h) (fun _ _=>Ak I (Cs I (Lm I (Lq I (Qn I) (Nk (Sb 13 false I (I) (Ab I (Ae (Kt (Cs I (Lfa U27 I Z3 I (Lo G3 0 I (Lfa U27 I Z3 I (Lo G3 0 I (l_e I (BV (eB hb1 hb2 (by omega) hf64) I I I call50 I Tt (fun x hx=>Pre.world (St _ _ (Ad bc 27 [.int .i64 (nb:Int),.int .i64 (nf:Int),.int .i64 (fl:Int),vo]::HQ.H x)) (fun _ h=>h.perm (js (l₂:=[_]))) ?_)))))))))))))))))))))))))))
 refine Lm I (Lq I (Qx I) (Lq I (Qx I) (Las I (Ak I (Ag (Cs I (Lm I (Lq I (Qn I) (Nk (Sb 24 false I (I) (Ab I (Ae (Kt (Cs I (Lm I (Lfa U27 I Z25 I (Lo isAgg25 0 I (l_e I (BV (Yz (by omega) (fun l hl=>gF (hol l hl) (by decide))) I I I call51 I (fun _ h=>hE.keep h) ?_)))))))))))))))))))
 rintro⟨vO,us⟩ hus
 dsimp only at hus
 refine Pre.world (St _ _ (Az vO 40 DM us::Ad bc 27 [.int .i64 (nb:Int),.int .i64 (nf:Int),.int .i64 (fl:Int),vo]::(RWs us ls++HQ.H x))) (fun _ h=>h.perm (List.Perm.cons _ jm)) ?_
 refine Pre.fact (fun _ h=>B0 (h.at 0 I)) ?_
 rintro⟨aO,cO,rfl⟩
 refine Lq I (AN ([ptV x.bh,.pointer none,Cg,(.slice aO us.length cO),Cg,.int .u64 1,.int .i64 0]) I I (fun w=>by kernel_rfl)) (l_e I (AQ I I I I (fun bH=>Ce [ptV x.bh,.pointer none,Cg,(.slice aO us.length cO),Cg,.int .u64 1,.int .i64 0] I (Ak I (Ag (Cs I (Lm I (Lc I (Lfa Co I Z25 I (Lo isAgg25 0 I (Lq I (AL I U25 I (Hrd 1 I)) (Lm I (Nk (Al (row0 102 Tk.enc none (Pm [1] I ?_))))))))))))))))
 refine E3 (fun (i:Nat) (vT:Value) (cc:List CC)=>[(1,.pointer (some ⟨bc,0,none⟩)),(7,ptV bH),(35,.slice aO us.length cO),(36,.int .i64 (us.length:Int)),(37,.int .i64 (i:Int))]) (fun (i:Nat) (vT:Value) (cc:List CC)=>St w [] (Ad bH 100 [ptV x.bh,.pointer none,vT,(.slice aO us.length cO),Cg,.int .u64 1,.int .i64 0]::Az vT 102 Tk.enc (cc.map ctk)::Az (.slice aO us.length cO) 40 DM us::Ad bc 27 [.int .i64 (nb:Int),.int .i64 (nf:Int),.int .i64 (fl:Int),vo]::(CLs 0 cc++(RWs (us.drop i) (ls.drop i)++HQ.H x)))) (fun (i:Nat) (vT:Value) (cc:List CC)=>i<=us.length/\cc.length=i/\cc.map CC.m=(ls.take i).map cl0) (fun (i:Nat) (vT:Value) (cc:List CC)=>us.length-i) (0) (Cg) ([]) ⟨gb _,rfl,rfl⟩ (Si I) Ih (fun i vT cc hp=>Ag ?_)
 obtain⟨hi,hcl,hcm⟩:=hp
 have hkl:(cc.map ctk).length=cc.length:=gS ..
 refine Cr I (Lq I (Ql I) (Ns ?_))
 refine CB 38 I (fun hlt=>?_) (fun hlt=>?_)
 · obtain⟨s,hs⟩:∃s,us[i]?=some s:=⟨_,fD (by omega)⟩
   obtain⟨l,hl⟩:∃l,ls[i]?=some l:=⟨_,fD (by omega)⟩
   have hts:=LI hl
   have hrd:=V8 us ls i s l hs hl
   refine Ai I (Ae (Ks (Al (Cs I (Lq I (As i I U25 Z40 I (Hrd 2 I) I I (by omega)) (Lq I (AI i 0 I G40 I I (Hrd 2 I) hs I) (Ak I (Cr I (Lm I (Lm I (Lc I (Lfa Co I Z98 I (Lo G98 0 I (Lm I (Lq I (AN ([s.v,.int .i64 0,.pointer none,.pointer none]) I I (fun w=>by kernel_rfl)) (l_e I (AQ I I I I (fun bk=>Ce [s.v,.int .i64 ((0:Nat):Int),.pointer none,.pointer none] I (Lq rfl (Hn rfl Ia (fun _ h=>by cases h) rfl) (l_e I (Ax (sz:=1) [.tmp 49] I I I I I U98 GX I zeroValue102 I (fun b1=>DS (l_e I (Ap U98 U98 Mf I (fun _ h=>AW (h.at 1 I) Tk.enc [(Tk.c bk)] I I) (by simp only[fL,fv,jn];omega) (fun v3=>AM (Av (Lc I (Lfa Co I Z98 I (Pre.fact (fun _ h=>B0 (h.at 0 I)) ?_)))))))))))))))))))))))))))))
   rintro⟨aT,cT,hvT⟩
   refine AV (l_e I (AF I I Z98 I I (by rw[hvT];rfl) (iy I) (Ce [ptV x.bh,.pointer none,v3,(.slice aO us.length cO),Cg,.int .u64 1,.int .i64 0] I (AB (Aw (Kt (Cr I (Lq I (Qi I (by omega)) (Lm I (AB (Pm [0,0,1,1] I ?_)))))))))))
   exact AD ((i+1,v3,cc++[cc0 bk s l])) (by dsimp only;omega) ⟨by dsimp only;omega,by simp[hcl],by rw[hts,gL,gL,hcm];rfl⟩ (Si I) (fun _ h=>by
    dsimp only
    rw[hrd] at h
    rw[gL]
    exact h.perm (Tn [_,_,_,_] cc bk s l _))
 · have hin:i=ls.length:=by omega
   subst hin
   rw[YA us ls (by omega)]
   rw[fZ (ga _)] at hcm
   have hccn:cc.length=ls.length:=hcl
   refine Ab I (AO (Ac (Ac (Ar (Ks (Cs I (Lfa U27 I Z3 I (Lo G3 3 I (Lm I (Nk (Al ?_)))))))))))
   refine E3 (fun (j:Nat) (vT:Value) (fs:List Nat)=>[(1,.pointer (some ⟨bc,0,none⟩)),(7,ptV bH),(56,.int .i64 (fl:Int)),(57,.int .i64 (j:Int))]) (fun (j:Nat) (vT:Value) (fs:List Nat)=>St w [] (Ad bH 100 [ptV x.bh,.pointer none,vT,(.slice aO us.length cO),Cg,.int .u64 1,.int .i64 0]::Az vT 102 Tk.enc (cc.map ctk++fs.map Tk.f)::Az (.slice aO us.length cO) 40 DM us::Ad bc 27 [.int .i64 (nb:Int),.int .i64 (nf:Int),.int .i64 (fl:Int),vo]::(CLs 0 cc++(FLs cc.length fs++HQ.H x)))) (fun (j:Nat) (vT:Value) (fs:List Nat)=>j<=fl/\fs.length=j) (fun (j:Nat) (vT:Value) (fs:List Nat)=>fl-j) (0) (vT) ([]) ⟨gb _,rfl⟩ (Si I) (fun _ h=>by rw[gC,jc];exact h) (fun j vT fs hp=>Ag ?_)
   obtain⟨hj,hfl⟩:=hp
   have hkl2:(cc.map ctk++fs.map Tk.f).length=cc.length+fs.length:=by simp
   have hfm:(fs.map Tk.f).length=fs.length:=gS ..
   refine Cr I (Lq I (Ql I) (Ns ?_))
   refine CB 58 I (fun hlt2=>?_) (fun hlt2=>?_)
   · refine Ai I (Ae (Ks (Al (Pre.fact (fun _ h=>B0 (h.at 1 I)) ?_))))
     rintro⟨aV,cV,rfl⟩
     refine Do8 (rg 18) 379507923 (fun w2=>(Ad bH 100 [ptV x.bh,.pointer none,(.slice aV (cc.map ctk++fs.map Tk.f).length cV),(.slice aO us.length cO),Cg,.int .u64 1,.int .i64 0]).at w2) I St.drawn (Hat 0 I) (Dm I (Dm I (Dc I (Dfa Co I Z98 I (Dq I (Ao I G98 I Ih I) (Dm I (Dc I (Dfa Co I Z98 I (Dq I (Ao I G98 I Ih I) (Dq I (Ew I U98 I) (d_e I (BV (eN _) I I I call52 I Tt (fun bf _=>Aj (Hat 1 I) (Dq I (AN ([ptV bf]) I I (fun w=>by kernel_rfl)) (Dq rfl (Hn rfl Xr (fun _ h=>by cases h) rfl) (d_e I (Ax (sz:=1) [.tmp 71] I I I I I U98 GX I zeroValue102 I (fun b3=>Aj (Hat 2 I) (DS (d_e I (Ap U98 U98 Mf I (fun _ h=>AW (h.at 1 I) Tk.enc [(Tk.f bf)] I I) (by simp only[fL,fv,jn];omega) (fun v4=>AM (Av (Aj (Hat 2 I) (d_t I (e_q I I (Bt I I) (d_t I (e_q I I (Ba I Co I Z98 I I) (Pre.fact (fun _ h=>B0 (h.at 0 I)) ?_)))))))))))))))))))))))))))))
     rintro⟨aT,cT,hvT⟩
     refine AV (d_t I (AF I I Z98 I I (by rw[hvT];rfl) (iy I) (Ce [ptV x.bh,.pointer none,v4,(.slice aO us.length cO),Cg,.int .u64 1,.int .i64 0] I (AK (Aw (Kt (Cr I (Lq I (Qi I (by omega)) (Lm I (AB (Pm [0,0,1,1] I ?_)))))))))))
     exact AD ((j+1,v4,fs++[bf])) (by dsimp only;omega) ⟨by dsimp only;omega,by simp[hfl]⟩ (Si I) (fun _ h=>by
      dsimp only
      rw[hkl2] at h
      rw[gL,<-gK]
      exact h.perm (To [_,_,_,_] (CLs 0 cc) cc.length fs bf _))
   · have hjf:j=fl:=by omega
     subst hjf
     refine Ab I (AO (Ac (Ac (Ar (Kt (Cs I (Lm I (Lm I (Lc I (Lfa Co I Z98 I (Lo G98 0 I (Lq I (AN (([]:List Value)) I I (fun w=>by kernel_rfl)) (Lq rfl (Hn rfl underlying111 (fun _ h=>by cases h) rfl) (l_e I (Ax (sz:=1) [.tmp 83] I I I I I U98 GX I zeroValue102 I (fun b4=>AV (l_e I (Ap U98 U98 Mf I (fun _ h=>AW (h.at 1 I) Tk.enc [Tk.e] I I) (by simp only[fL,fv,jn];omega) (fun v5=>AM (Av (Lc I (Lfa Co I Z98 I (Pre.fact (fun _ h=>B0 (h.at 0 I)) ?_)))))))))))))))))))))))
     rintro⟨aT,cT,hvT⟩
     have hkl3:((cc.map ctk++fs.map Tk.f)++[Tk.e]).length=ls.length+(j+1):=by simp[hccn,hfl]
     refine AM (l_e I (AF I I Z98 I I (by rw[hvT];rfl) (iy I) (Ce [ptV x.bh,.pointer none,v5,(.slice aO us.length cO),Cg,.int .u64 1,.int .i64 0] I (Ns (Cs I (Lm I (Lm I (Lc I (Lfa Co I Z98 I (Lo G98 0 I (Lq I (AL I U98 I (Hrd 1 I)) (Sv' 94 (.int .i64 ((ls.length+(j+1):Nat):Int)) I (by rw[hkl3]) (l_e I (AX (Sc.new_yes (n:=ls.length+(j+1)) (by omega) (by omega)) I I I call53 I Tt (fun bt _=>Lm I (Lq I (Qx I) (Lq I (Qx I) (Lc I (Lfa Co I Z97 I (AM (l_e I (AF I I Z97 I I I (iy I) (Ce [ptV x.bh,ptV bt,v5,(.slice aO us.length cO),Cg,.int .u64 1,.int .i64 0] I (Ak I (Cs I (Lm I (Lq I (Qn I) (Nk (Sb 101 false I (I) (Ab I (Ae (Kt (Cs I (Lm I (row0 71 Evt.enc none (CY (Av (CY ?_))))))))))))))))))))))))))))))))))))))
     refine Av (Pm [1,0,1] I ?_)
     have kz:HOk (⟨bH,bt,v5,(.slice aO us.length cO),Cg,cc,fs,x⟩:HC) (hm0 nb nf j ls) 0:=bI ⟨hx.1,hx.2⟩ hcm hfl (by omega) (fun l hl=>gF (hol l hl) (by decide))
     refine Pre.world (St w [] (HC.H (⟨bH,bt,v5,(.slice aO us.length cO),Cg,cc,fs,x⟩:HC) (hm0 nb nf j ls))) (fun _ h=>?_) ?_
     · show St w [] (_::_::Az v5 102 Tk.enc (HC.tks (⟨bH,bt,v5,(.slice aO us.length cO),Cg,cc,fs,x⟩:HC))::_) _
       rw[bJ]
       exact h
     refine l_e I (Ee [] (Zp kz (YB hb1)) I call42 Tt (fun _ _=>Pw (St _ _ (HC.H (⟨bH,bt,v5,(.slice aO us.length cO),Cg,cc,fs,x⟩:HC) ((hm0 nb nf j ls).setT (fb (hm0 nb nf j ls) (hm0 nb nf j ls).T.n (hm0 nb nf j ls).T)))) ?_))
     refine Nk (Cs I (Lm I (Las I (Ak I (Af (Be (rs:=[.tmp 2,.tmp 3]) I I ?_))))))
     exact fun _ h=>⟨(⟨bH,bt,v5,(.slice aO us.length cO),Cg,cc,fs,x⟩:HC),rfl,kz.fb _,h⟩
section
variable {P:Program} {n:Nat} {L:Env} {o:Oper} {Q:Exit->Act->World->Prop} {K:Act->World->Prop} {w0:World} {D:List Nat}
theorem V9 {β:Type} {v:β->Value} {p:β->Prop} {E:World->Prop} {HA:List Ent} {HB:β->List Ent} {g:Operand} {f:FuncId} {xs:List Operand} {ts:Array TypeId} {d:Nat} {vs us:List Value} (pre:List Ent) (s:Con P f (vs++us) E HA v p HB) (ho:o.op=.call ⟨.value g,xs.toArray,ts⟩) (hd:o.dst=some d) (hn:d.blt n=true) (hg:ev L g=some (.func (.func f) #[] us.toArray))
 (hc:∀us w,(callFunc f us).run P w=.ok (.enter f us) w) (hv:evs L xs=some vs) (hE:∀w,St w0 D (pre++HA) w->E w) (h:∀b,p b->Pre n ((d,v b)::L) (St w0 D (pre++HB b)) K):EOp P n L (St w0 D (pre++HA)) o Q K :=
 Fx ho hd hn hg hc hv (fun w x=>(s.frame (F:=pre) (x.perm js) (hE w x)).mono (fun e w' ⟨b,he,hp,h'⟩=>⟨b,he,hp,h'.perm js⟩)) h
end
theorem bK (bw:Nat):Con prog 55 [.slice (some ⟨bw,0,none⟩) 1 1] (fun _=>True) [Ad bw 3 [.int .i64 0]] (fun _:Unit=>.tuple #[.slice (some ⟨bw,0,none⟩) 0 1,.int .i64 0]) (fun _=>True) (fun _=>[Ad bw 3 [.int .i64 0]]):=by
 intro w hE hH
 refine Ey func55 I hH ?_
 refine Cs I (Las I (Ak I (Ag (Do8 (rg 13) 1062882 (fun w2=>(Ad bw 3 [.int .i64 0]).at w2) I St.drawn (Hat 0 I) (Dm I (Dm I (Dq I (Ew I U22 I) (Dq I (Dl I I I (by decide)) (Dq I (Ff 0 I U22 Z3 I I (by decide) (by decide)) (Dm I (Dm I (Dq I (Ew I U22 I) (Dq I (Dl I I I (by decide)) (Dq I (FX 0 I U22 Z3 I I (by decide) (by omega)) (Dq I (Ao I G3 I Ih I) (Das I (d_t I (e_q I I (AE I I) (AK (Kt (Af (Be (rs:=[.tmp 2,.tmp 3]) I I ?_))))))))))))))))))))))
 exact fun _ h=>⟨(),rfl,trivial,h⟩
theorem vat (h:x.Ok B) (hQ:DA x.hm) (pa:Option Addr) (ca:Nat):Con prog 56 [ptV x.bh,.slice pa 0 ca,.int .i64 0] (fun _=>True) (x.H) (fun s:N4=>.agg (⟨s,x.hm.look⟩:NV).c.toArray) (fun _=>True) (fun s=>Bz (⟨s,x.hm.look⟩:NV)++x.H):=by
 intro w hE hH
 refine Ey func56 I hH ?_
 refine Cs I (l_e I (Au I I I zeroValue135 (fun br=>Ce nv0.c I (Nk (Cs I (Lm I (Lm I (l_e I (Ee [_] (V6 h hQ) I call71 Tt (fun s _=>Pw (St _ _ (_::_::_::_::_::HQ.H (x))) ?_))))))))))
 refine Lm I (Lq I (Qx I) (Lq I (Qx I) (l_e I (Au I I I zeroValue135 (fun bn=>Ce nv0.c I (l_e I (Ah I I AR I I I (NV.one _) (by show 0+5<=5;decide) (Ay (show Sep.splice _ 0 ((⟨s,x.hm.look⟩:NV)).c=((⟨s,x.hm.look⟩:NV)).c from Sep.e7 I) (Ak I (Ag (Cs I (Lm I (Lq I (Qt I) (Lm I (Lm I (Lm I (l_e I (E1 (Lt.contains_spec (va:=.slice pa 0 ca) ([]:List Int) 0 (by decide)) I call105 (fun _ _=>⟨pa,ca,rfl,gb _,.inl rfl⟩) (fun _ _=>Lq I (Qz I) (Nk (Sb 21 false I (by simp) (Ab I (Ae (Kt (Cs I (Lq I (Cq ((⟨s,x.hm.look⟩:NV).c) Bs AR 0 I (I) (I)) (AM (l_e I (Ah I I AR I I I (NV.one _) (by show 0+5<=5;decide) (Ay (show Sep.splice _ 0 ((⟨s,x.hm.look⟩:NV)).c=((⟨s,x.hm.look⟩:NV)).c from Sep.e7 I) (Nk (Af (Pm [2,2,2,2,2,2,2,2,2,2] I ?_)))))))))))))))))))))))))))))))))
 refine Pm [11,10] I (Av (CL I (AJ I Bs AR (Hat 0 I) (I)) ?_))
 exact fun _ h=>⟨s,rfl,trivial,h.drop⟩
theorem bN (h:x.Ok B) (hQ:DA x.hm) (hlf:x.hm.look.leaf=true) (bw bv bf:Nat):Con prog 54 [.slice (some ⟨bw,0,none⟩) 1 1,.pointer (some ⟨bv,0,none⟩),.pointer (some ⟨bf,0,none⟩)] (fun _=>True) (Ad bw 3 [.int .i64 0]::Ad bv 47 [ptV x.bh]::x.H) (fun v:Value=>v) (fun _=>True) (fun v=>Az v 79 En.enc x.hm.look.es::Ad bw 3 [.int .i64 0]::Ad bv 47 [ptV x.bh]::x.H):=by
 intro w hE hH
 refine Ey func54 I hH ?_
 refine Cs I (Ak I (Cs I (Lm I (l_e I (Bg (bK bw) I I I call55 I Tt (fun _ _=>Lm I (Lq I (Qx I) (Lq I (Qx I) (Las I (Ak I (Cs I (Lo G47 1 I (Lm I (Lm I (l_e I (Ee [_,_] (vat h hQ _ _) I call56 Tt (fun s _=>Pw (St _ _ (_::_::_::_::_::_::HQ.H (x))) ?_)))))))))))))))))
 refine l_e I (Au I I I zeroValue135 (fun bn=>Ce nv0.c I (l_e I (Ah I I AR I I I (NV.one _) (by show 0+5<=5;decide) (Ay (show Sep.splice _ 0 ((⟨s,x.hm.look⟩:NV)).c=((⟨s,x.hm.look⟩:NV)).c from Sep.e7 I) (Ns (Cs I (Lfa CT I Z4 I (Lo G4 0 I (Nk (Sb 21 true I (hlf) (Ai I (Cs I (Lfa CT I Z49 I (Lo G49 0 I (Ak I (Af (Aa (Pm [2,6,6,6,6,6,6] I ?_)))))))))))))))))))
 refine Pm [7,8,8,8,8,7] I (Av ?_)
 skip
 refine An I I ?_
 exact fun _ h=>⟨s.e.v,rfl,trivial,h.sublist (List.Sublist.cons_cons _ ((List.Sublist.cons _ (List.Sublist.cons _ (List.Sublist.cons _ (jX _))))))⟩
theorem eO (h:x.Ok B) (hQ:DA x.hm) (hlf:x.hm.look.leaf=true):Con prog 20 [ptV x.bh] (fun _=>True) (x.H) (fun v:Value=>v) (fun _=>True) (fun v=>Az v 79 En.enc x.hm.look.es::x.H):=by
 intro w hE hH
 refine Ey func20 I hH ?_
 refine Cs I (l_e I (AQ I I I I (fun bv=>Ce [ptV x.bh] I (Ak I (Cs I (l_e I (Au I I I zeroValue129 (fun bf=>Nk (Cs I (Lq I (DD (fn:=.func 0) (us:=#[.pointer (some ⟨bv,0,none⟩),.pointer (some ⟨bf,0,none⟩)]) 54 I (vs:=#[]) (fun a k=>by simp) (fun a k=>by simp[k.eval (x:=.tmp 1) rfl,k.eval (x:=.tmp 3) rfl])) (l_e I (AF I I sizeOf129 I I I (iy I) (Ce [.func (.func 54) #[] #[.pointer (some ⟨bv,0,none⟩),.pointer (some ⟨bf,0,none⟩)]] I (Nk (Cs I (Lo isAgg129 0 I (l_e I (Ax (sz:=1) [.const (.int .i64 0)] I I I I I U22 Z3 I zeroValue3 I (fun bw=>Pm [1] I (l_e I (V9 [_] (vs:=[.slice (some ⟨bw,0,none⟩) 1 1]) (us:=[.pointer (some ⟨bv,0,none⟩),.pointer (some ⟨bf,0,none⟩)]) (bN h hQ hlf bw bv bf) I I I I call54 I Tt (fun v _=>Pw (St _ _ (_::_::_::_::HQ.H x)) ?_))))))))))))))))))))))
 refine Ak I (Af (Pm [0,1,1] I (Av (Av (Av (An I I ?_))))))
 exact fun _ h=>⟨v,rfl,trivial,h⟩
theorem eP {z:HC} {m:HM} (k:HOk z m B) (hQ:DA m.L) (hlf:m.L.look.leaf=true):Con prog 20 [ptV z.x.bh] (fun _=>True) (z.H m) (fun v:Value=>v) (fun _=>True) (fun v=>Az v 79 En.enc m.L.look.es::z.H m):=by
 have hv:=eO k.lh.ok (by rw[k.lh.hm];exact hQ) (by rw[k.lh.hm];exact hlf)
 rw[k.lh.hm] at hv
 have hp:(z.H m).Perm (z.x.H++(HSE z.bH (ptV z.x.bh) z.bt z.vT z.vO z.vE m.sq m.pk::Az z.vE 71 Evt.enc m.ev::Az z.vT 102 Tk.enc z.tks::Ad z.bt 171 (Sc.fh m.T)::(CLs 0 z.cc++FLs z.cc.length z.fl))):=by
  have h1:z.H m=(HSE z.bH (ptV z.x.bh) z.bt z.vT z.vO z.vE m.sq m.pk::Az z.vE 71 Evt.enc m.ev::Az z.vT 102 Tk.enc z.tks::Ad z.bt 171 (Sc.fh m.T)::(CLs 0 z.cc++FLs z.cc.length z.fl))++z.x.H:=by
   show _::_::_::_::(CLs 0 z.cc++(FLs z.cc.length z.fl++z.x.H))=_::_::_::_::((CLs 0 z.cc++FLs z.cc.length z.fl)++z.x.H)
   rw[gK]
  rw[h1]
  exact js
 exact Con.pack _ hv hp (fun _ _ _=>trivial) id (fun v _=>⟨rfl,trivial,[],by rw[jc];exact (hp.symm.cons _)⟩)
end Go.Proofs.YtloldofjddbjoaaGreat
namespace Go.Proofs.YtloldofjddbjoaaGreat
open Go.Sep Go.RowKit Tryz
variable {t u:Int} {B C n:Nat} {x:HQ} {w b:Bool} {α:Type}
theorem Wa (h:x.Ok B):Con prog 97 [ptV x.bc] (fun _=>True) x.H (fun b:Value×List FC=>b.1) (fun b=>b.2.map _root_.Go.Proofs.YtloldofjddbjoaaGreat.vw=x.q.M.fr) (fun b=>Az b.1 202 FC.encA b.2::x.H):=fun w he hh =>
 (X7 h w he hh).mono (fun e w' ⟨b,h1,h2,h3⟩=>⟨(b.1,b.2.1),h1,h2.1,h3.sublist (List.Sublist.cons_cons _ (kv _ _))⟩)
theorem Zr (h:x.Ok B) {k:Nat} {l:LC} (h0:x.lt[k]?=some l):Con prog 98 [ptV l.b] (fun _=>True) x.H (fun _:Unit=>.bool (Lt.idleB l.m)) (fun _=>True) (fun _=>x.H) :=
 HQ.lookL (A':=fun _:Unit=>[]) h0 (Lt.idle_spec (h.l l (hY h0)) h.b9 l.b l.vR l.vQ) (fun _ _ _=>trivial)
structure Wb (L:Hm):Prop where
 fr:∀v∈L.M.fr,(v.st=0\/v.st=2)/\v.pins=0
 la:∀l∈L.la,Lt.idleB l=true
 ln:L.M.line=[]
theorem dQ (h:x.Ok B) (hI:Wb x.hm):Con prog 48 [ptV x.bh] (fun _=>True) (x.H) (fun _:Unit=>.bool true) (fun _=>True) (fun _=>x.H):=by
 intro w hE hH
 refine Ey func48 I hH ?_
 refine Ag ?_
 have hll:(x.lt.map LC.b).length=x.lt.length:=gS ..
 have hl6:x.lt.length<=64:=by rw[h.ll];exact h.q.ok.n64
 have hlf:=h.ll
 refine Cr I (Ak I (Ag (Cs I (Lm I (Lc I (Lfa U91 I Z86 I (Lo G86 0 I (l_e I (Ee [] (Wa h) I call97 Tt ?_)))))))))
 rintro⟨vf,fs⟩ hfs
 refine Pw (St _ _ (_::HQ.H (x))) ?_
 dsimp only at hfs
 have hfl:fs.length=x.lt.length:=by rw[hlf,<-hfs,gS]
 refine Lq I (AL I Ua I (Hrd 0 I)) (Lm I (Nk (Al ?_)))
 refine Bc (fun (i:Nat)=>[(0,ptV x.bh),(9,vf),(10,.int .i64 (fs.length:Int)),(11,.int .i64 (i:Int))]) (fun (i:Nat)=>St w (dom x.H) (Az vf 202 FC.encA fs::x.H)) (fun (i:Nat)=>i<=fs.length) (fun (i:Nat)=>fs.length-i) (0) (gb _) (Si I) Ih (fun i hi=>Cs I (Lq I (Ql I) (Ns ?_)))
 refine CB 12 I (fun hlt=>?_) (fun hlt=>?_)
 · obtain⟨f,hf⟩:∃f,fs[i]?=some f:=⟨_,fD (by omega)⟩
   obtain⟨l,h0⟩:∃l,x.lt[i]?=some l:=⟨_,fD (by omega)⟩
   have hy:(x.lt.map LC.b)[i]?=some l.b:=by rw[gm,h0];rfl
   have hfr:=hI.fr (_root_.Go.Proofs.YtloldofjddbjoaaGreat.vw f) (by show _∈x.q.M.fr;rw[<-hfs];exact gj.2 ⟨f,hY hf,rfl⟩)
   have hs:f.st=0\/f.st=2:=hfr.1
   have hp:f.pins=0:=hfr.2
   have hid:=hI.la l.m (kk (hY h0))
   refine Ai I (Ae (Ks (Al (Cs I (Lm I (Lq I (As i I Ua sizeOf202 I (Hrd 0 I) I I (by omega)) (Lq I (AU i I isAgg202 sizeOf202 I I (Hrd 0 I) hf) (l_e I (Au I I I zeroValue202 (fun bg=>Las I (l_e I (Ah I I sizeOf202 I I I (FC.oneA f) (by show 0+13<=13;decide) (Ce (FC.cA f) (Sep.e7 I) (Nk (Cs I (Lfa Xs I Z3 I (Lo G3 0 I (Lq I (Qn I) (Lm I ?_)))))))))))))))))))
   rcases hs with hs|hs
   · refine Sb 19 false I (by first|rfl|(rw[hs];rfl)|(rw[hp];rfl)|(simp only[im];omega)) (Lx I (Lx I (Lx I (Lq I (Qz I) (Lm I (Lfa Xs I Z3 I (Lo G3 0 I (Lq I (BS I I I) (Lq I (Qz I) (Lm I (Sb 29 false I (by first|rfl|(rw[hs];rfl)|(rw[hp];rfl)|(simp only[im];omega)) (Lm I (Lc I (Lfa U91 I Z88 I (Lo isAgg88 2 I (Lm I (Lq I (As i I U88 sizeOf203 I (Hrd 3 I) I I (by omega)) (Lq I (AI i 0 I isAgg203 I I (Hrd 3 I) hy I) (Pm [3,3,3,3,3] I ?_)))))))))))))))))))
     refine Pm [5,5,5] I (l_e I (Ee [_,_] (Zr h h0) I call98 Tt (fun _ _=>Pw (St _ _ (_::_::HQ.H (x))) ?_)))
     refine Sv' 37 (.bool true) I (by rw[hid]) (Lq I (Qt I) (Lq I (Qz I) (Nk (Ab I (Ae (Aw (Kt (Cr I (Lq I (Qi I (by omega)) (Lm I (AB (Av ?_))))))))))))
     exact AD (i+1) (by omega) (by omega) (Si I) (fun _ h=>h)
   · refine Sb 19 true I (by first|rfl|(rw[hs];rfl)|(rw[hp];rfl)|(simp only[im];omega)) (Lfa Xs I Z3 I (Lo G3 0 I (Lq I (Qn I) (Lq I (Qy I) (Lm I (Sb 24 false I (by first|rfl|(rw[hs];rfl)|(rw[hp];rfl)|(simp only[im];omega)) (Lfa Xs I Z3 I (Lo G3 0 I (Lq I (BS I I I) (Lq I (Qz I) (Lm I (Sb 29 false I (by first|rfl|(rw[hs];rfl)|(rw[hp];rfl)|(simp only[im];omega)) (Lm I (Lc I (Lfa U91 I Z88 I (Lo isAgg88 2 I (Lm I (Lq I (As i I U88 sizeOf203 I (Hrd 3 I) I I (by omega)) (Lq I (AI i 0 I isAgg203 I I (Hrd 3 I) hy I) (Pm [4,4,4,4] I ?_))))))))))))))))))))
     refine Pm [4,4,4,4] I (l_e I (Ee [_,_] (Zr h h0) I call98 Tt (fun _ _=>Pw (St _ _ (_::_::HQ.H (x))) ?_)))
     refine Sv' 37 (.bool true) I (by rw[hid]) (Lq I (Qt I) (Lq I (Qz I) (Nk (Ab I (Ae (Aw (Kt (Cr I (Lq I (Qi I (by omega)) (Lm I (AB (Av ?_))))))))))))
     exact AD (i+1) (by omega) (by omega) (Si I) (fun _ h=>h)
 · refine Ab I (AO (Ac (Ac (Ar (Kt (Cs I (Lm I (Lc I (Lfa U91 I Z86 I (Lo G86 1 I (l_e I (Ee [_] (Zi h) I call99 Tt (fun v _=>Pw (St _ _ (_::_::HQ.H (x))) ?_)))))))))))))
   refine Lq I (AL I U22 I (Hrd 1 I)) (Lq I (Qe I) (Ak I (Af (Pm [1] I (Av (Av (An I I ?_)))))))
   exact fun _ hh=>⟨(),congrArg (fun z=>Ending.returned (Value.bool z)) (by rw[show x.q.M.line=[] from hI.ln];rfl),trivial,hh⟩
theorem dR {z:HC} {m:HM} (k:HOk z m B) (hI:Wb m.L):Con prog 48 [ptV z.x.bh] (fun _=>True) (z.H m) (fun _:Unit=>.bool true) (fun _=>True) (fun _=>z.H m):=by
 have hp:(z.H m).Perm (z.x.H++(HSE z.bH (ptV z.x.bh) z.bt z.vT z.vO z.vE m.sq m.pk::Az z.vE 71 Evt.enc m.ev::Az z.vT 102 Tk.enc z.tks::Ad z.bt 171 (Sc.fh m.T)::(CLs 0 z.cc++FLs z.cc.length z.fl))):=by
  have h1:z.H m=(HSE z.bH (ptV z.x.bh) z.bt z.vT z.vO z.vE m.sq m.pk::Az z.vE 71 Evt.enc m.ev::Az z.vT 102 Tk.enc z.tks::Ad z.bt 171 (Sc.fh m.T)::(CLs 0 z.cc++FLs z.cc.length z.fl))++z.x.H:=by
   show _::_::_::_::(CLs 0 z.cc++(FLs z.cc.length z.fl++z.x.H))=_::_::_::_::((CLs 0 z.cc++FLs z.cc.length z.fl)++z.x.H)
   rw[gK]
  rw[h1]
  exact js
 exact Con.pack _ (dQ k.lh.ok (by rw[k.lh.hm];exact hI)) hp (fun _ _ _=>trivial) id (fun v _=>⟨rfl,trivial,[],by rw[jc];exact hp.symm⟩)
namespace Lt
theorem MN (u:Int):∀(q:List Wt) (m:La),u∈m.rd->u∈(ET q m).2.rd
 |[],m,h=>h
 |w::q,m,h=>by
  unfold ET
  split
  · refine MN u q _ ?_
    unfold giveL;split
    · exact h
    · exact HK.2 (.inr h)
  · exact h
theorem RE (hu:u≠-1):∀(q:List Wt) (m:La),m.wr=u->(ET q m).2.wr=u
 |[],m,h=>h
 |w::q,m,h=>by
  unfold ET
  rw[fR]
  · exact h
  · intro ho;have:=(openB_iff.1 ho).1;omega
theorem OM (hu:u≠-1):∀(q:List Wt) (m:La),(u,b)∈q->(u,b)∈(ET q m).2.q\/(if b=true then (ET q m).2.wr=u else u∈(ET q m).2.rd)
 |[],m,h=>by cases h
 |w::q,m,h=>by
  unfold ET
  split
  · rename_i ho
    rcases fq.1 h with e|e
    · subst e
      refine .inr ?_
      cases b with
      |true=>exact RE hu q _ rfl
      |false=>exact MN u q _ (by show u∈ins u m.rd;exact HK.2 (.inl rfl))
    · exact OM hu q _ e
  · exact .inl h
theorem take_stable {m:La} (h:Stable m) (t:Int) (w:Bool):Stable (takeL m t w):=by
 unfold takeL
 split
 · rename_i hm
   split
   · rename_i ht
     intro x q e
     unfold tryB at ht
     simp only[gQ,ia] at ht
     have:(giveL m t w).q=m.q:=by unfold giveL;split<;>rfl
     rw[this] at e
     rw[e] at ht;simp at ht
   · rename_i ht
     intro x q e
     show openB m x.2=false
     have e2:m.q++[(t,w)]=x::q:=e
     cases hq:m.q with
     |nil =>
      rw[hq] at e2;cases e2
      unfold tryB at ht
      rw[hm,hq] at ht
      simpa using ht
     |cons y ys =>
      rw[hq] at e2;cases e2
      exact h _ _ hq
 · exact h
theorem take_self {m:La} (ht:0<=t) (hn:t∉tasks m) (h0:m.Ok0) (w:Bool):(t,w)∈(takeL m t w).q\/(if w=true then (takeL m t w).wr=t else t∈(takeL m t w).rd):=by
 have hm:He m t=true:=by rw[h0.may t ht];exact jq hn
 unfold takeL
 rw[fO hm]
 split
 · refine .inr ?_
   unfold giveL
   cases w with
   |true=>rfl
   |false=>exact HK.2 (.inl rfl)
 · exact .inl (iU _ (by simp))
theorem take_q {m:La} {x:Wt} (h:x∈m.q):x∈(takeL m t w).q:=by
 unfold takeL
 split
 · split
   · have:(giveL m t w).q=m.q:=by unfold giveL;split<;>rfl
     rw[this];exact h
   · exact gi _ h
 · exact h
theorem take_rd {m:La} (h:u∈m.rd):u∈(takeL m t w).rd:=by
 unfold takeL
 split
 · split
   · unfold giveL;split
     · exact h
     · exact HK.2 (.inr h)
   · exact h
 · exact h
theorem take_wr {m:La} (hu:u≠-1) (h:m.wr=u):(takeL m t w).wr=u:=by
 unfold takeL
 split
 · split
   · rename_i ht
     unfold tryB at ht
     simp only[gQ] at ht
     have:=(openB_iff.1 ht.2).1
     omega
   · exact h
 · exact h
theorem take_tasks {m:La} (ht:0<=t) (h:u∈tasks (takeL m t w)):u=t\/u∈tasks m:=by
 unfold takeL at h
 split at h
 · split at h
   · rename_i ht2
     unfold tryB at ht2
     simp only[gQ] at ht2
     have:=(FG ht ht2.2).mem_iff.1 h
     exact fq.1 this
   · simp only[tasks,Hf,gL,ib,gB,gC,iE] at h ⊢
     rcases h with h|h|h|h
     · exact .inr (.inl h)
     · exact .inr (.inr (.inl h))
     · exact .inr (.inr (.inr h))
     · exact .inl h
 · exact .inr h
theorem drop_tasks {m:La} (h0:m.Ok n) {t u:Int} (ht:0<=t) (h:u∈tasks (dropL m t).2):u≠t/\u∈tasks m:=by
 unfold dropL at h
 rw[fR (by omega)] at h
 have hp:=I2 h0.toOk0 ht
 have hl:(CK m t).Ok0:=(leave_ok h0 ht).toOk0
 have h2:=(Rm (CK m t).q (CK m t) hl).2.mem_iff.1 h
 rw[show ({CK m t with q:=(CK m t).q}:La)=CK m t from rfl,hp] at h2
 have h3:=jE.1 h2
 exact⟨by simpa using h3.2,h3.1⟩
theorem drop_q {m:La} (ht:0<=t) (hu:u≠-1) (hn:u≠t) (h:(u,b)∈m.q):(u,b)∈(dropL m t).2.q\/(if b=true then (dropL m t).2.wr=u else u∈(dropL m t).2.rd):=by
 unfold dropL
 rw[fR (by omega)]
 exact OM hu _ _ (jE.2 ⟨h,by simpa using hn⟩)
theorem drop_rd {m:La} (ht:0<=t) (hn:u≠t) (h:u∈m.rd):u∈(dropL m t).2.rd:=by
 unfold dropL
 rw[fR (by omega)]
 exact MN u _ _ (jE.2 ⟨h,by simpa using hn⟩)
theorem drop_wr {m:La} (ht:0<=t) (hu:u≠-1) (hn:u≠t) (h:m.wr=u):(dropL m t).2.wr=u:=by
 unfold dropL
 rw[fR (by omega)]
 refine RE hu _ _ ?_
 show (if m.wr=t then -1 else m.wr)=u
 rw[fR (by omega)];exact h
theorem drop_stable {m:La} (ht:0<=t):Stable (dropL m t).2:=by
 unfold dropL
 rw[fR (by omega)]
 exact Ou _ _
end Lt
theorem E9 (o:Opn):kck (kOf o)=true:=by
 unfold kOf
 split
 · exact Un _ _ _
 · decide
namespace Lo
structure Lf where
 n:Nat
 s:Sto
 r:Vw
 ld:List Int
 cl:Nat
 ct:Int
 la:Lt.La
 rt:Option Int
def cf (t:Int):Vw:=⟨3,-1,t,1,false,false,nd0⟩
def lfd (es:List En):Nd:=⟨true,es,[],[],[]⟩
namespace Lf
def rest (L:Lf):List Vw:=List.replicate L.cl (cf L.ct)++List.replicate (L.n-1-L.cl) BG
def M (L:Lf):Mo:=⟨L.r::L.rest,L.ld.map (fun t=>(t,0)),[],0⟩
def las (L:Lf):List Lt.La:=L.la::List.replicate (L.n-1) Lt.newL
def rds (L:Lf):List (Int×Int):=match L.rt with|none=>[]|some t=>[(0,t)]
structure Ok (L:Lf):Prop where
 n5:5<=L.n
 c2:L.cl<=2
 s0:L.s.us[0]?=some true
 b0:∃bk:Bk,L.s.bl[0]?=some bk/\bk.l=Dz
 st:L.r=BG\/(L.r.st=1/\L.r.blk=0)\/(L.r.st=2/\L.r.blk=0)
 nd:L.r.st=2->∃es,L.r.nd=lfd es/\B8 es/\Cd (lfd es)=true
theorem Wc {L:Lf} {b:Int}:∀f∈L.rest,isB b f=false:=fun f hf=>by
 rcases ib.1 hf with h|h
 · rw[(ic.1 h).2];simp[isB,cf]
 · rw[(ic.1 h).2];simp[isB,BG]
theorem fst1_cons {p:α->Bool} {x:α} {l:List α}:Cp p (x::l)=if p x=true then some 0 else (Cp p l).map (·+1):=by
 unfold Cp;rw[jU]
theorem Ok.find {L:Lf} (h:L.Ok):L.M.find 0=if L.r.st=0 then none else some 0:=by
 show Cp (isB 0) (L.r::L.rest)=_
 rw[fst1_cons,C3 Wc]
 rcases h.st with e|⟨e1,e2⟩|⟨e1,e2⟩
 · rw[e]
   rfl
 · simp[isB,e1,e2]
 · simp[isB,e1,e2]
theorem Wd (m:Nat) (hm:0<m):Cp isF (List.replicate n (cf t)++List.replicate m BG)=some n:=by
 refine C2 (y:=BG) ?_ (by simp[isF,BG]) (fun z hz=>?_)
 · rw[fP (by simp),jB,Nat.sub_self,hM,fO hm]
 · rw[jg (by simp),fZ (by simp)] at hz
   rw[(ic.1 hz).2];simp[isF,cf]
theorem Ok.free {L:Lf} (h:L.Ok):L.M.freeI=if L.r.st=0 then some 0 else some (L.cl+1):=by
 have:=h.n5
 have:=h.c2
 show Cp isF (L.r::L.rest)=_
 rw[fst1_cons]
 unfold rest
 rw[Wd _ (by omega)]
 by_cases e:L.r.st=0
 · simp[isF,e]
 · simp[isF,e]
theorem Ok.takes {L:Lf} (h:L.Ok) (t:Int):L.M.takes t=if L.r.st=0 then some 0 else some (L.cl+1):=by
 unfold Mo.takes
 rw[fO (show L.M.turn t=true from rfl),h.free]
theorem Ku (L:Lf) (t:Int):L.M.stand t=none:=rfl
theorem waits_iff (L:Lf) (t:Int):L.M.waits t=decide (t∈L.ld):=by
 show (L.ld.map (fun t=>((t,0):Int×Int))).any (isT t)=_
 rw[hZ]
 simp[isT,iB]
theorem ON {L:Lf} (b:Int) (ht:tkB t=true) (hl:t∉L.ld):L.M.mayW t b=true:=by
 unfold Mo.mayW
 rw[ht,waits_iff,jo hl,Ku];rfl
theorem may_iff (L:Lf) (t:Int):L.M.may t=(tkB t&&!decide (t∈L.ld)):=by
 unfold Mo.may
 rw[waits_iff,Ku];simp
def pin (L:Lf) (t:Int):Int×Lf :=
 if L.r.st=0 then (3,{L with r:=⟨1,0,0,1,true,false,nd0⟩,rt:=some t})
 else if L.r.st=2 then (1,{L with r:={L.r with pins:=L.r.pins+1,ref:=true}})
 else (2,{L with r:={L.r with pins:=L.r.pins+1,ref:=true},ld:=L.ld++[t]})
theorem at0 (L:Lf):L.M.at' 0=L.r:=rfl
theorem Ok.pin {L:Lf} (h:L.Ok) {t:Int} (ht:tkB t=true) (hl:t∉L.ld):L.M.pin t 0=((L.pin t).1,(L.pin t).2.M):=by
 unfold Mo.pin Lf.pin
 rw[ON 0 ht hl,h.find,h.takes]
 by_cases e:L.r.st=0
 · simp only[e,gR]
   rfl
 · simp only[e,iL]
   by_cases e2:L.r.st=2
   · simp only[at0,e2,gR]
     rfl
   · simp only[at0,e2,iL]
     refine congrArg (Prod.mk 2) ?_
     unfold M
     simp only[gL]
     rfl
theorem Ok.pin_ok {L : Lf} (h : L.Ok) (t : Int) : (L.pin t).2.Ok := by
  unfold Lf.pin
  split
  · exact ⟨h.n5, h.c2, h.s0, h.b0, .inr (.inl ⟨rfl, rfl⟩), fun e => by cases e⟩
  · split
    · rename_i h0 h2
      exact ⟨h.n5, h.c2, h.s0, h.b0, .inr (.inr ⟨h2, by rcases h.st with e | e | e;· exact absurd (by rw [e];rfl) h0
                                                        · exact e.2
                                                        · exact e.2⟩), h.nd⟩
    · rename_i h0 h2
      exact ⟨h.n5, h.c2, h.s0, h.b0, .inr (.inl (by rcases h.st with e | e | e;· exact absurd (by rw [e];rfl) h0
                                                    · exact e
                                                    · exact absurd e.1 h2)), h.nd⟩
def fill (L:Lf):Lf:={L with r:={L.r with st:=2,nd:=lfd []},ld:=[],rt:=none}
theorem Ok.frI1 {L:Lf} (h:L.Ok) (st:Int) (h0:st≠0):L.M.frI 0 st=if L.r.st=st then some 0 else none:=by
 unfold Mo.frI
 rw[h.find]
 by_cases e:L.r.st=0
 · have:¬(0:Int)=st:=fun x=>h0 x.symm
   simp[e,this]
 · rw[fR e];rfl
theorem We (L:Lf):L.M.told 0=L.ld:=by
 unfold Mo.told
 show ((L.ld.map (fun t=>((t,0):Int×Int))).filter (fun q=>decide (q.2=0))).map Prod.fst=_
 rw[List.filter_eq_self.2 (by intro a ha;obtain⟨t,_,rfl⟩:=gj.1 ha;rfl),ik]
 exact List.map_id' _
theorem Ok.fill {L:Lf} (h:L.Ok) (h1:L.r.st=1):L.M.fill 0 (lfd [])=((L.ld,true),L.fill.M):=by
 unfold Mo.fill
 rw[h.frI1 1 (by decide),fO h1,We]
 refine congrArg (Prod.mk _) ?_
 have:L.M.loads.filter (fun q=>!decide (q.2=0))=[]:=by
  rw[List.filter_eq_nil_iff]
  intro a ha
  obtain⟨t,_,rfl⟩:=gj.1 (show a∈L.ld.map (fun t=>((t,0):Int×Int)) from ha)
  simp
 rw[this]
 rfl
theorem Wf:B8 []:=List.Pairwise.nil
theorem Ok.fill_ok {L:Lf} (h:L.Ok) (h1:L.r.st=1):L.fill.Ok:=⟨h.n5,h.c2,h.s0,h.b0,.inr (.inr ⟨rfl,by
 rcases h.st with e|e|e
 · rw[e] at h1;cases h1
 · exact e.2
 · exact e.2⟩),fun _=>⟨[],rfl,Wf,Rl⟩⟩
theorem Ok.node {L:Lf} (h:L.Ok):L.M.node 0=if L.r.st=2 then (L.r.nd,true) else (nd0,false):=by
 unfold Mo.node Mo.ready
 rw[h.frI1 2 (by decide)]
 by_cases e:L.r.st=2
 · simp[e,at0]
 · simp[e]
def setN (L:Lf) (es:List En):Lf:={L with r:={L.r with dirty:=true,nd:=lfd es}}
theorem Ok.setN {L:Lf} (h:L.Ok) (h2:L.r.st=2) (es:List En):L.M.setN 0 (lfd es)=(true,(L.setN es).M):=by
 unfold Mo.setN Mo.ready
 rw[h.frI1 2 (by decide),fO h2]
 rfl
theorem Ok.blk {L:Lf} (h:L.Ok) (h0:L.r.st≠0):L.r.blk=0:=by
 rcases h.st with e|e|e
 · exact absurd (by rw[e];rfl) h0
 · exact e.2
 · exact e.2
theorem Ok.setN_ok {L:Lf} (h:L.Ok) (h2:L.r.st=2) {es:List En} (hr:B8 es) (hf:Cd (lfd es)=true):(L.setN es).Ok:=⟨h.n5,h.c2,h.s0,h.b0,.inr (.inr ⟨h2,h.blk (by rw[h2];decide)⟩),fun _=>⟨es,rfl,hr,hf⟩⟩
def unpin (L:Lf):Lf:=if L.r.pins=0 then L else {L with r:={L.r with pins:=L.r.pins-1}}
theorem Ok.unpin {L:Lf} (h:L.Ok) (h2:L.r.st=2):(L.M.unpin 0).2=L.unpin.M:=by
 unfold Mo.unpin Mo.ready Lf.unpin
 rw[h.frI1 2 (by decide),fO h2]
 simp only[at0]
 by_cases e:L.r.pins=0
 · simp only[e,gR]
 · simp only[e,iL];rfl
theorem Ok.unpin_ok {L:Lf} (h:L.Ok):L.unpin.Ok:=by
 unfold Lf.unpin
 split
 · exact h
 · rename_i hp
   refine⟨h.n5,h.c2,h.s0,h.b0,?_,h.nd⟩
   rcases h.st with e|e|e
   · exact absurd (by rw[e];rfl) hp
   · exact .inr (.inl e)
   · exact .inr (.inr e)
def claim (L:Lf) (t:Int):Lf:={L with cl:=L.cl+1,ct:=t}
theorem RF (a b:α):∀(k m:Nat),0<m->(List.replicate k a++List.replicate m b).set k a=List.replicate (k+1) a++List.replicate (m-1) b
 |0,m,h=>by cases m with
  |zero=>omega
  |succ m=>rfl
 |k+1,m,h=>by
  rw[fT,fu,iY,RF a b k m h,fT (n:=k+1),fu]
theorem Ok.claim {L:Lf} (h:L.Ok) {t:Int} (ht:tkB t=true) (hl:t∉L.ld) (h0:L.r.st≠0) (hc:L.cl=0\/L.ct=t):L.M.claim t=(true,(L.claim t).M):=by
 have h5:=h.n5
 have h2:=h.c2
 unfold Mo.claim
 rw[ON (-1) ht hl,h.takes,fR h0]
 simp only[Bool.true_eq_false,iL]
 refine congrArg (Prod.mk _) ?_
 have hr:L.rest=List.replicate L.cl (cf t)++List.replicate (L.n-1-L.cl) BG:=by
  unfold rest
  rcases hc with e|e
  · rw[e];rfl
  · rw[e]
 have hs:(L.r::L.rest).set (L.cl+1) (cf t)=L.r::(L.claim t).rest:=by
  rw[iY,hr,RF _ _ _ _ (by omega)]
  unfold rest Lf.claim
  show _=L.r::(List.replicate (L.cl+1) (cf t)++List.replicate (L.n-1-(L.cl+1)) BG)
  rw[show L.n-1-L.cl-1=L.n-1-(L.cl+1) by omega]
 show (⟨(L.r::L.rest).set (L.cl+1) (cf t),L.M.loads,[],0⟩:Mo)=_
 rw[hs]
 rfl
theorem Ok.claim_ok {L:Lf} (h:L.Ok) (t:Int) (hc:L.cl<=1):(L.claim t).Ok:=⟨h.n5,by show L.cl+1<=2;omega,h.s0,h.b0,h.st,h.nd⟩
def give (L:Lf):Lf:={L with cl:=0}
theorem Ok.r3 {L:Lf} (h:L.Ok):L.r.st≠3:=by
 rcases h.st with e|e|e
 · rw[e];decide
 · rw[e.1];decide
 · rw[e.1];decide
theorem Ok.give {L:Lf} (h:L.Ok) {t:Int} (hc:L.cl=0\/L.ct=t):L.M.give t=L.give.M:=by
 have h5:=h.n5
 have h2:=h.c2
 have hr:(L.r::L.rest).map (fun f=>if isC t f=true then BG else f)=L.r::L.give.rest:=by
  rw[gB,fR (by simp[isC,h.r3])]
  unfold rest Lf.give
  rw[gL,gT,gT]
  have hf:(if isC t BG=true then BG else BG)=BG:=by split<;>rfl
  rw[hf]
  have hcl:List.replicate L.cl (if isC t (cf L.ct)=true then BG else cf L.ct)=List.replicate L.cl BG:=by
   rcases hc with e|e
   · rw[e];rfl
   · rw[e,fO (by simp[isC,cf])]
  rw[hcl,jG]
  show _=L.r::(List.replicate 0 _++List.replicate (L.n-1-0) BG)
  rw[show L.cl+(L.n-1-L.cl)=L.n-1-0 by omega]
  rfl
 show (⟨(L.r::L.rest).map _,L.M.loads,[],0⟩:Mo)=_
 rw[hr]
 rfl
theorem Ok.give_ok {L:Lf} (h:L.Ok):L.give.Ok:=⟨h.n5,gb _,h.s0,h.b0,h.st,h.nd⟩
def take (L:Lf) (t:Int) (w:Bool):Lf:={L with la:=Lt.takeL L.la t w}
def drop (L:Lf) (t:Int):Lf:={L with la:=(Lt.dropL L.la t).2}
theorem Ok.la {L:Lf} (h:L.Ok) (m:Lt.La):({L with la:=m}:Lf).Ok:=⟨h.n5,h.c2,h.s0,h.b0,h.st,h.nd⟩
def leave (L:Lf) (t:Int):Lf:=(L.drop t).unpin
def mayH (L:Lf) (t:Int):Bool:=!decide (t∈L.la.q.map Prod.fst)&&L.M.may t
end Lf
structure LH (x:HQ) (L:Lf) (B:Nat):Prop where
 ok:x.Ok B
 m:x.q.M=L.M
 s:x.s=L.s
 l:x.lt.map LC.m=L.las
 r:x.rd=L.rds
 o:L.Ok
theorem LH.mono {L:Lf} (h:LH x L B) (hBC:B<=C) (hC:C<=60000):LH x L C:=⟨h.ok.mono hBC hC,h.m,h.s,h.l,h.r,h.o⟩
theorem LH.l0 {L:Lf} (h:LH x L B):∃l,x.lt[0]?=some l/\l.m=L.la:=by
 have hl:=h.l
 cases hx:x.lt with
 |nil=>rw[hx] at hl;cases hl
 |cons a as'=>rw[hx] at hl;exact⟨a,rfl,(List.cons.inj hl).1⟩
theorem LH.setL {L:Lf} (h:LH x L B) (l':LC) (hC:l'.m.Ok C) (hBC:B<=C) (hC6:C<=60000):LH {x with lt:=x.lt.set 0 l'} {L with la:=l'.m} C:=by
 obtain⟨l,h0,h1⟩:=h.l0
 refine⟨⟨h.ok.q.mono hBC hC6,h.ok.s,fun z hz=>?_,by show (x.lt.set 0 l').length=_;rw[je];exact h.ok.ll,h.ok.rn⟩,h.m,h.s,?_,h.r,h.o.la _⟩
 · rcases jW hz with e|e
   · exact (h.ok.l z e).mono hBC
   · rw[e];exact hC
 · show (x.lt.set 0 l').map LC.m=_
   have hl:=h.l
   cases hx:x.lt with
   |nil=>rw[hx] at h0;cases h0
   |cons a as'=>rw[hx] at hl;exact congrArg (l'.m::·) (List.cons.inj hl).2
theorem LH.setq {L L':Lf} {q:Q} (h:LH x L B) (hq:(x.setq q).Ok C) (hm:q.M=L'.M) (hs:L'.s=L.s) (hl:L'.las=L.las) (hr:L'.rt=L.rt) (ho:L'.Ok):LH (x.setq q) L' C:=⟨hq,hm,by rw[hs];exact h.s,by rw[hl];exact h.l,by show x.rd=_;rw[h.r];unfold Lf.rds;rw[hr],ho⟩
def lfe (L:Lf):List En:=L.r.nd.es
inductive Ph where
 |idle
 |rd (a:Nat)
 |wr (a:Nat)
 |rm (a:Nat)
deriving DecidableEq
structure Cl where
 ops:List Opn
 nx:Nat
 ph:Ph
def Cl.op (c:Cl):Opn:=c.ops.getD c.nx ⟨0,⟨#[]⟩,⟨#[]⟩,0,by decide,by decide⟩
def Cl.ended (c:Cl):Bool:=decide (c.ph=.idle)&&decide (c.nx=c.ops.length)
def evB (t:Int) (c:Cl):Evt:=⟨t,c.nx,false,Bx⟩
def evD (t:Int) (c:Cl) (a:Ans):Evt:=⟨t,c.nx,true,a⟩
def Cl.done (c:Cl):Cl:={c with nx:=c.nx+1,ph:=.idle}
def fe (t:Int) (L:Lf) (c:Cl):Lf×Cl×Bool×List Evt:=match c.ph with
 |.idle=>if BX c.op=true then (L,c.done,false,[evB t c,evD t c ⟨2,false,kv0 16⟩]) else (L,{c with ph:=if c.op.kind=4 then .rd 1 else .wr 0},false,[evB t c])
 |.rd 1=>((L.pin t).2,{c with ph:=.rd (if (L.pin t).1=3 then 2 else 3)},false,[])
 |.rd 2=>(L.fill,{c with ph:=.rd 3},false,[])
 |.rd 3=>(L.take t false,{c with ph:=.rd 5},false,[])
 |.rd _=>(L.leave t,c.done,false,[evD t c ⟨0,(AS (lfe L) (kOf c.op)).2,(AS (lfe L) (kOf c.op)).1⟩])
 |.wr 0=>((L.pin t).2,{c with ph:=.wr (if (L.pin t).1=3 then 1 else 2)},false,[])
 |.wr 1=>(L.fill,{c with ph:=.wr 2},false,[])
 |.wr 2=>(L.take t true,{c with ph:=.wr 3},false,[])
 |.wr _=>if Cd (lfd (Bu (lfe L) (mOf c.op)))=true then ((L.setN (Bu (lfe L) (mOf c.op))).leave t,c.done,true,[evD t c Bx]) else (L,{c with ph:=.rm 1},false,[])
 |.rm 1=>(L,{c with ph:=.rm 6},false,[])
 |.rm 6=>(L.claim t,{c with ph:=.rm 7},false,[])
 |.rm 7=>(L.claim t,{c with ph:=.rm 10},false,[])
 |.rm _=>(L.give.leave t,c.done,false,[evD t c ⟨3,false,kv0 16⟩])
def preC (t:Int) (L:Lf) (c:Cl):Prop:=match c.ph with
 |.idle=>c.nx<c.ops.length/\c.op.key.size<=9223372036854775807/\(c.op.kind=1\/c.op.kind=2\/c.op.kind=3\/c.op.kind=4)
 |.rd 1=>True
 |.rd 2=>L.rt=some t/\L.r.st=1
 |.rd 3=>L.r.st=2
 |.rd 5=>L.r.st=2/\DH L.la t=true
 |.rd _=>False
 |.wr 0=>True
 |.wr 1=>L.rt=some t/\L.r.st=1
 |.wr 2=>L.r.st=2
 |.wr 3=>L.r.st=2/\L.la.wr=t/\kck (mOf c.op).key=true
 |.wr _=>False
 |.rm 1=>L.r.st=2/\2<=L.r.nd.es.length
 |.rm 6=>L.r.st=2/\(L.cl=0\/L.ct=t)/\L.cl<=1
 |.rm 7=>L.r.st=2/\(L.cl=0\/L.ct=t)/\L.cl<=1
 |.rm 10=>L.r.st=2/\L.cl=2/\L.ct=t/\L.s.left<2/\DH L.la t=true
 |.rm _=>False
theorem may_ld {L:Lf} (h:L.mayH t=true):t∉L.ld:=by
 unfold Lf.mayH at h
 rw[Lf.may_iff] at h
 simp only[gQ,iF,im] at h
 exact h.2.2
theorem op_at {c:Cl} (h:c.nx<c.ops.length):c.ops[c.nx]?=some c.op:=by
 unfold Cl.op
 rw[ju,fD h];rfl
structure HM where
 L:Lf
 cs:List Cl
 nf:Nat
 sq:Int
 pk:Nat
 ev:List Evt
 T:Sc.Tab
def mayC (t:Int) (L:Lf) (c:Cl):Bool:=match c.ph with
 |.idle=>!decide (c.nx=c.ops.length)
 |_=>L.mayH t
def mayI (m:HM) (i:Nat):Bool:=match m.cs[i]? with
 |some c=>mayC (i:Int) m.L c
 |none=>false
def stI (m:HM) (i:Nat):Int:=if mayI m i=true then 0 else match m.cs[i]? with
 |some c=>if c.ended=true then 2 else 1
 |none=>1
def fb (m:HM):Nat->Sc.Tab->Sc.Tab
 |0,T=>T
 |k+1,T=>Sc.fj (fb m k T) (k:Int) (stI m k)
theorem tellT_n (m:HM):∀(k:Nat) (T:Sc.Tab),(fb m k T).n=T.n
 |0,T=>rfl
 |k+1,T=>by show (Sc.fj _ _ _).n=_;rw[Sc.turn_n,tellT_n m k T]
theorem tellT_ok (m:HM) {c:Int}:∀(k:Nat) {T:Sc.Tab},T.Ok c->(fb m k T).Ok c
 |0,T,h=>h
 |k+1,T,h=>Sc.turn_ok (tellT_ok m k h) _ _
abbrev HM.setT (m:HM) (T:Sc.Tab):HM:={m with T:=T}
def HM.client (m:HM) (t:Nat):HM:=match m.cs[t]? with
 |some c=>{m with L:=(fe (t:Int) m.L c).1,cs:=m.cs.set t (fe (t:Int) m.L c).2.1,sq:=FT (fe (t:Int) m.L c).2.2.1 m.sq,ev:=m.ev++(fe (t:Int) m.L c).2.2.2}
 |none=>m
def ff (m:HM) (p:Int):HM :=
 if Sc.fg m.T=[] then m
 else (({m with T:=Sc.fc m.T p,pk:=m.pk+1}:HM).client (Sc.whoM m.T p)).setT (fb (({m with T:=Sc.fc m.T p,pk:=m.pk+1}:HM).client (Sc.whoM m.T p)) m.T.n (Sc.fc m.T p))
def HM.Pre (m:HM):Prop:=∀t∈Sc.fg m.T,∃c,m.cs[t]?=some c/\preC (t:Int) m.L c/\(c.ph≠.idle->m.L.mayH (t:Int)=true)
theorem stepC_ops (t:Int) (L:Lf) (c:Cl):(fe t L c).2.1.ops=c.ops:=by
 unfold fe
 split<;>(try split)<;>rfl
theorem stepC_nx {L:Lf} {c:Cl} (hp:preC t L c) (hn:c.ph≠.idle->c.nx<c.ops.length):(fe t L c).2.1.nx<=c.ops.length/\((fe t L c).2.1.ph≠.idle->(fe t L c).2.1.nx<c.ops.length):=by
 have h1:c.nx<c.ops.length:=by
  by_cases e:c.ph=.idle
  · unfold preC at hp;rw[e] at hp;exact hp.1
  · exact hn e
 unfold fe
 split<;>(try split)<;>first|exact⟨Nat.le_of_lt h1,fun _=>h1⟩|exact⟨h1,fun h=>absurd rfl h⟩
theorem client_T (m:HM) (t:Nat):(m.client t).T=m.T:=by unfold HM.client;split<;>rfl
theorem stepH_eq {m:HM} {p:Int} (hr:Sc.fg m.T≠[]) {cl:Cl} (hcl:m.cs[Sc.whoM m.T p]?=some cl):ff m p=(({m with T:=Sc.fc m.T p,pk:=m.pk+1}:HM).client (Sc.whoM m.T p)).setT (fb (({m with T:=Sc.fc m.T p,pk:=m.pk+1}:HM).client (Sc.whoM m.T p)) (({m with T:=Sc.fc m.T p,pk:=m.pk+1}:HM).client (Sc.whoM m.T p)).T.n (({m with T:=Sc.fc m.T p,pk:=m.pk+1}:HM).client (Sc.whoM m.T p)).T):=by
 unfold ff
 rw[fR hr,client_T]
 show _=HM.setT _ (fb _ (Sc.fc m.T p).n _)
 rw[Sc.pick_n]
def Ge (p:Ph):Prop:=p=.rd 5\/p=.wr 3\/∃a,p=.rm a
def CI (t:Int) (L:Lf) (c:Cl):Prop:=match c.ph with
 |.idle=>True
 |.rd 1=>True
 |.rd 2=>L.rt=some t/\L.r.st=1
 |.rd 3=>L.r.st=2\/(L.r.st=1/\t∈L.ld)
 |.rd 5=>L.r.st=2/\((t,false)∈L.la.q\/t∈L.la.rd)
 |.rd _=>False
 |.wr 0=>True
 |.wr 1=>L.rt=some t/\L.r.st=1
 |.wr 2=>L.r.st=2\/(L.r.st=1/\t∈L.ld)
 |.wr 3=>L.r.st=2/\((t,true)∈L.la.q\/L.la.wr=t)
 |.wr _=>False
 |.rm 1=>L.r.st=2/\L.la.wr=t/\2<=L.r.nd.es.length/\L.cl=0/\L.s.left<2
 |.rm 6=>L.r.st=2/\L.la.wr=t/\L.cl=0/\L.s.left<2
 |.rm 7=>L.r.st=2/\L.la.wr=t/\L.cl=1/\L.ct=t/\L.s.left<2
 |.rm 10=>L.r.st=2/\L.la.wr=t/\L.cl=2/\L.ct=t/\L.s.left<2
 |.rm _=>False
structure Pres (u:Int) (L L':Lf):Prop where
 s2:L.r.st=2->L'.r.st=2
 s1:L.r.st=1->(L'.r.st=1/\(u∈L.ld->u∈L'.ld)/\L'.rt=L.rt)\/(L'.r.st=2/\L.rt≠some u)
 q:∀b,(u,b)∈L.la.q->(u,b)∈L'.la.q\/(if b=true then L'.la.wr=u else u∈L'.la.rd)
 rd:u∈L.la.rd->u∈L'.la.rd
 wr:L.la.wr=u->L'.la.wr=u
 w:L.la.wr=u->L.r.st=2->L'.cl=L.cl/\L'.ct=L.ct/\L'.r.nd=L.r.nd
 s:L'.s=L.s
theorem CI.keep {L L':Lf} {c:Cl} (p:Pres u L L') (h:CI u L c):CI u L' c:=by
 unfold CI at h ⊢
 split
 · trivial
 · trivial
 · rename_i e;rw[e] at h
   rcases p.s1 h.2 with⟨h1,_,h3⟩|⟨_,h2⟩
   · exact⟨by rw[h3];exact h.1,h1⟩
   · exact absurd h.1 h2
 · rename_i e;rw[e] at h
   rcases h with h|⟨h,hl⟩
   · exact .inl (p.s2 h)
   · rcases p.s1 h with⟨h1,h2,_⟩|⟨h2,_⟩
     · exact .inr ⟨h1,h2 hl⟩
     · exact .inl h2
 · rename_i e;rw[e] at h
   refine⟨p.s2 h.1,?_⟩
   rcases h.2 with h2|h2
   · exact p.q false h2
   · exact .inr (p.rd h2)
 · rename_i e1 e2 e3 e4 e;rw[e] at h
   split at h<;>simp_all
 · trivial
 · rename_i e;rw[e] at h
   rcases p.s1 h.2 with⟨h1,_,h3⟩|⟨_,h2⟩
   · exact⟨by rw[h3];exact h.1,h1⟩
   · exact absurd h.1 h2
 · rename_i e;rw[e] at h
   rcases h with h|⟨h,hl⟩
   · exact .inl (p.s2 h)
   · rcases p.s1 h with⟨h1,h2,_⟩|⟨h2,_⟩
     · exact .inr ⟨h1,h2 hl⟩
     · exact .inl h2
 · rename_i e;rw[e] at h
   refine⟨p.s2 h.1,?_⟩
   rcases h.2 with h2|h2
   · exact p.q true h2
   · exact .inr (p.wr h2)
 · rename_i e1 e2 e3 e4 e;rw[e] at h
   split at h<;>simp_all
 · rename_i e;rw[e] at h
   obtain⟨h1,h2,h3⟩:=p.w h.2.1 h.1
   exact⟨p.s2 h.1,p.wr h.2.1,by rw[h3];exact h.2.2.1,by rw[h1];exact h.2.2.2.1,by rw[p.s];exact h.2.2.2.2⟩
 · rename_i e;rw[e] at h
   obtain⟨h1,h2,h3⟩:=p.w h.2.1 h.1
   exact⟨p.s2 h.1,p.wr h.2.1,by rw[h1];exact h.2.2.1,by rw[p.s];exact h.2.2.2⟩
 · rename_i e;rw[e] at h
   obtain⟨h1,h2,h3⟩:=p.w h.2.1 h.1
   exact⟨p.s2 h.1,p.wr h.2.1,by rw[h1];exact h.2.2.1,by rw[h2];exact h.2.2.2.1,by rw[p.s];exact h.2.2.2.2⟩
 · rename_i e;rw[e] at h
   obtain⟨h1,h2,h3⟩:=p.w h.2.1 h.1
   exact⟨p.s2 h.1,p.wr h.2.1,by rw[h1];exact h.2.2.1,by rw[h2];exact h.2.2.2.1,by rw[p.s];exact h.2.2.2.2⟩
 · rename_i e1 e2 e3 e4 e;rw[e] at h
   split at h<;>simp_all
def Zs (c:Cl):Prop:=∀o∈c.ops,o.key.size<=9223372036854775807/\(o.kind=1\/o.kind=2\/o.kind=3\/o.kind=4)
structure Inv0 (m:HM):Prop where
 ops:∀c∈m.cs,Zs c/\c.nx<=c.ops.length/\(c.ph≠.idle->c.nx<c.ops.length)
 lok:m.L.Ok
 la:∃n,m.L.la.Ok n
 sb:Lt.Stable m.L.la
 n8:m.cs.length<=8
 ci:∀(t:Nat) (c:Cl),m.cs[t]?=some c->CI (t:Int) m.L c
 ld0:m.L.r.st≠1->m.L.ld=[]
 ldc:∀u∈m.L.ld,∃(t:Nat) (c:Cl),u=(t:Int)/\m.cs[t]?=some c/\(c.ph=.rd 3\/c.ph=.wr 2)
 ldr:m.L.r.st=1->∃(t:Nat) (c:Cl),m.cs[t]?=some c/\(c.ph=.rd 2\/c.ph=.wr 1)
 tk:∀u∈Lt.tasks m.L.la,∃(t:Nat) (c:Cl),u=(t:Int)/\m.cs[t]?=some c/\Ge c.ph
 cl0:(∀(t:Nat) (c:Cl),m.cs[t]?=some c->∀a,c.ph≠.rm a)->m.L.cl=0
theorem CI.hold {L:Lf} {c:Cl} (h:CI t L c) (hh:Ge c.ph):L.r.st=2:=by
 unfold CI at h
 rcases hh with e|e|⟨a,e⟩
 · rw[e] at h;exact h.1
 · rw[e] at h;exact h.1
 · rw[e] at h
   split at h<;>first|exact h.1|(exact h.elim)|simp_all
theorem Inv0.hold2 {m:HM} (h:Inv0 m) {u:Int} (hu:u∈Lt.tasks m.L.la):m.L.r.st=2:=by
 obtain⟨t,c,_,hc,hp⟩:=h.tk u hu
 exact (h.ci t c hc).hold hp
theorem Wg {m:Lt.La} (hu:0<=u) (h:m.wr=u):u∈Lt.tasks m:=by
 unfold Lt.tasks
 rw[h,fO hu];simp
theorem Inv0.mk' {m:HM} (h:Inv0 m) {t:Nat} {c:Cl} (hc:m.cs[t]?=some c) {L':Lf} {c':Cl} {b:Bool} {evs:List Evt} (e:fe (t:Int) m.L c=(L',c',b,evs)) (hpre:preC (t:Int) m.L c)
 (hP:∀u:Int,u≠(t:Int)->0<=u->Pres u m.L L') (hL:L'.Ok) (hla:∃n,L'.la.Ok n) (hsb:Lt.Stable L'.la) (hci:CI (t:Int) L' c') (hld0:L'.r.st≠1->L'.ld=[])
 (hldc:∀u∈L'.ld,(u=(t:Int)/\(c'.ph=.rd 3\/c'.ph=.wr 2))\/(u∈m.L.ld/\u≠(t:Int)))
 (hldr:L'.r.st=1->(c'.ph=.rd 2\/c'.ph=.wr 1)\/(m.L.r.st=1/\c.ph≠.rd 2/\c.ph≠.wr 1))
 (htk:∀u∈Lt.tasks L'.la,(u=(t:Int)/\Ge c'.ph)\/(u∈Lt.tasks m.L.la/\u≠(t:Int)))
 (hcl0:L'.cl=0\/(∃a,c'.ph=.rm a)\/(L'.cl=m.L.cl/\∀a,c.ph≠.rm a)):Inv0 (m.client t):=by
 have hm:m.client t={m with L:=L',cs:=m.cs.set t c',sq:=FT b m.sq,ev:=m.ev++evs}:=by unfold HM.client;rw[hc];dsimp only;rw[e]
 have hlt:=(gl.1 hc).1
 have hself:(m.cs.set t c')[t]?=some c':=jV hlt
 have hoth:∀u,u≠t->(m.cs.set t c')[u]?=m.cs[u]?:=fun u hu=>ku (iA hu)
 have hop:=h.ops c (hY hc)
 have ho':c'.ops=c.ops:=by have:=stepC_ops (t:Int) m.L c;rw[e] at this;exact this
 have hn':=stepC_nx hpre hop.2.2
 rw[e] at hn'
 rw[hm]
 refine⟨fun d hd=>?_,hL,hla,hsb,by show (m.cs.set t c').length<=8;rw[je];exact h.n8,fun u d hd=>?_,hld0,fun u hu=>?_,fun h1=>?_,fun u hu=>?_,fun hno=>?_⟩
 · rcases jW hd with e1|e1
   · exact h.ops d e1
   · subst e1
     exact⟨by unfold Zs;rw[ho'];exact hop.1,by rw[ho'];exact hn'.1,by rw[ho'];exact hn'.2⟩
 · by_cases e1:u=t
   · subst e1
     have:(m.cs.set u c')[u]?=some d:=hd
     rw[hself] at this;cases this;exact hci
   · have:(m.cs.set t c')[u]?=some d:=hd
     rw[hoth u e1] at this
     exact (h.ci u d this).keep (hP _ (by omega) (by omega))
 · rcases hldc u hu with⟨rfl,h2⟩|⟨h2,h3⟩
   · exact⟨t,c',rfl,hself,h2⟩
   · obtain⟨v,d,rfl,hd,hp⟩:=h.ldc u h2
     exact⟨v,d,rfl,by show (m.cs.set t c')[v]?=_;rw[hoth v (by omega)];exact hd,hp⟩
 · rcases hldr h1 with h2|⟨h2,h3,h4⟩
   · exact⟨t,c',hself,h2⟩
   · obtain⟨v,d,hd,hp⟩:=h.ldr h2
     have hv:v≠t:=fun e1=>by
      subst e1;rw[hc] at hd;cases hd
      rcases hp with hp|hp
      · exact h3 hp
      · exact h4 hp
     exact⟨v,d,by show (m.cs.set t c')[v]?=_;rw[hoth v hv];exact hd,hp⟩
 · rcases htk u hu with⟨rfl,h2⟩|⟨h2,h3⟩
   · exact⟨t,c',rfl,hself,h2⟩
   · obtain⟨v,d,rfl,hd,hp⟩:=h.tk u h2
     exact⟨v,d,rfl,by show (m.cs.set t c')[v]?=_;rw[hoth v (by omega)];exact hd,hp⟩
 · show L'.cl=0
   rcases hcl0 with h2|⟨a,h2⟩|⟨h2,h3⟩
   · exact h2
   · exact absurd h2 (hno t c' hself a)
   · rw[h2]
     refine h.cl0 (fun v d hd a=>?_)
     by_cases e1:v=t
     · subst e1;rw[hc] at hd;cases hd;exact h3 a
     · exact hno v d (by show (m.cs.set t c')[v]?=_;rw[hoth v e1];exact hd) a
theorem Pres.refl (u:Int) (L:Lf):Pres u L L:=⟨id,fun h=>.inl ⟨h,id,rfl⟩,fun _ h=>.inl h,id,id,fun _ _=>⟨rfl,rfl,rfl⟩,rfl⟩
theorem Inv0.nh {m:HM} (h:Inv0 m) {t:Nat} {c:Cl} (hc:m.cs[t]?=some c) (hn:¬Ge c.ph):∀u∈Lt.tasks m.L.la,u≠(t:Int):=fun u hu e=>by
 obtain⟨v,d,h1,h2,h3⟩:=h.tk u hu
 have:v=t:=by omega
 subst this;rw[hc] at h2;cases h2;exact hn h3
theorem Inv0.nl {m:HM} (h:Inv0 m) {t:Nat} {c:Cl} (hc:m.cs[t]?=some c) (h1:c.ph≠.rd 3) (h2:c.ph≠.wr 2):∀u∈m.L.ld,u≠(t:Int):=fun u hu e=>by
 obtain⟨v,d,e1,e2,e3⟩:=h.ldc u hu
 have:v=t:=by omega
 subst this;rw[hc] at e2;cases e2
 rcases e3 with e3|e3
 · exact h1 e3
 · exact h2 e3
theorem Lf.Ok.st3 {L:Lf} (h:L.Ok):L.r.st=0\/L.r.st=1\/L.r.st=2:=by
 rcases h.st with e|e|e
 · left;rw[e];rfl
 · exact .inr (.inl e.1)
 · exact .inr (.inr e.1)
theorem Wh (u:Int) (L:Lf) (t:Int):Pres u L (L.pin t).2:=by
 unfold Lf.pin
 split
 · rename_i h0
   exact⟨fun h=>by omega,fun h=>by omega,fun _ h=>.inl h,id,id,fun _ h=>by omega,rfl⟩
 · split
   · rename_i h0 h2
     exact⟨id,fun h=>by omega,fun _ h=>.inl h,id,id,fun _ _=>⟨rfl,rfl,rfl⟩,rfl⟩
   · exact⟨id,fun h=>.inl ⟨h,fun h=>gi _ h,rfl⟩,fun _ h=>.inl h,id,id,fun _ _=>⟨rfl,rfl,rfl⟩,rfl⟩
theorem Inv0.pin {m:HM} (h:Inv0 m) {t:Nat} {c:Cl} (hc:m.cs[t]?=some c) (hpre:preC (t:Int) m.L c) {c':Cl} (e:fe (t:Int) m.L c=((m.L.pin t).2,c',false,[])) (hph:c.ph=.rd 1/\c'.ph=.rd (if (m.L.pin t).1=3 then 2 else 3)\/c.ph=.wr 0/\c'.ph=.wr (if (m.L.pin t).1=3 then 1 else 2)):Inv0 (m.client t):=by
 have hnh:¬Ge c.ph:=by
  rintro (h1|h1|⟨a,h1⟩)<;>rcases hph with⟨h2,_⟩|⟨h2,_⟩<;>rw[h2] at h1<;>cases h1
 have h3:c.ph≠.rd 3:=by rcases hph with⟨h2,_⟩|⟨h2,_⟩<;>rw[h2]<;>simp
 have h4:c.ph≠.wr 2:=by rcases hph with⟨h2,_⟩|⟨h2,_⟩<;>rw[h2]<;>simp
 have h5:c.ph≠.rd 2/\c.ph≠.wr 1:=by rcases hph with⟨h2,_⟩|⟨h2,_⟩<;>rw[h2]<;>simp
 have h6:∀a,c.ph≠.rm a:=by intro a;rcases hph with⟨h2,_⟩|⟨h2,_⟩<;>rw[h2]<;>simp
 have hla:(m.L.pin (t:Int)).2.la=m.L.la:=by unfold Lf.pin;split<;>(try split)<;>rfl
 have hcl:(m.L.pin (t:Int)).2.cl=m.L.cl:=by unfold Lf.pin;split<;>(try split)<;>rfl
 refine h.mk' hc e hpre (fun u _ _=>Wh u m.L t) (h.lok.pin_ok t) (by rw[hla];exact h.la) (by rw[hla];exact h.sb) ?_ ?_ ?_ ?_ (fun u hu=>.inr ⟨by rw[hla] at hu;exact hu,h.nh hc hnh u (by rw[hla] at hu;exact hu)⟩) (.inr (.inr ⟨hcl,h6⟩))
 · rcases h.lok.st3 with h0|h0|h0
   · have hp:m.L.pin (t:Int)=(3,{m.L with r:=⟨1,0,0,1,true,false,nd0⟩,rt:=some (t:Int)}):=by unfold Lf.pin;rw[fO h0]
     rw[hp] at hph ⊢
     rcases hph with⟨_,h2⟩|⟨_,h2⟩<;>(unfold CI;rw[h2];exact⟨rfl,rfl⟩)
   · have hp:m.L.pin (t:Int)=(2,{m.L with r:={m.L.r with pins:=m.L.r.pins+1,ref:=true},ld:=m.L.ld++[(t:Int)]}):=by unfold Lf.pin;rw[fR (by omega),fR (by omega)]
     rw[hp] at hph ⊢
     rcases hph with⟨_,h2⟩|⟨_,h2⟩<;>(unfold CI;rw[h2];exact .inr ⟨h0,iU _ (by simp)⟩)
   · have hp:m.L.pin (t:Int)=(1,{m.L with r:={m.L.r with pins:=m.L.r.pins+1,ref:=true}}):=by unfold Lf.pin;rw[fR (by omega),fO h0]
     rw[hp] at hph ⊢
     rcases hph with⟨_,h2⟩|⟨_,h2⟩<;>(unfold CI;rw[h2];exact .inl h0)
 · intro hs
   rcases h.lok.st3 with h0|h0|h0
   · exact absurd (by unfold Lf.pin;rw[fO h0]) hs
   · exact absurd (by unfold Lf.pin;rw[fR (by omega),fR (by omega)];exact h0) hs
   · have hp:m.L.pin (t:Int)=(1,{m.L with r:={m.L.r with pins:=m.L.r.pins+1,ref:=true}}):=by unfold Lf.pin;rw[fR (by omega),fO h0]
     rw[hp];exact h.ld0 (by omega)
 · intro u hu
   rcases h.lok.st3 with h0|h0|h0
   · have hp:m.L.pin (t:Int)=(3,{m.L with r:=⟨1,0,0,1,true,false,nd0⟩,rt:=some (t:Int)}):=by unfold Lf.pin;rw[fO h0]
     rw[hp] at hu;exact .inr ⟨hu,h.nl hc h3 h4 u hu⟩
   · have hp:m.L.pin (t:Int)=(2,{m.L with r:={m.L.r with pins:=m.L.r.pins+1,ref:=true},ld:=m.L.ld++[(t:Int)]}):=by unfold Lf.pin;rw[fR (by omega),fR (by omega)]
     rw[hp] at hu hph
     rcases ib.1 (show u∈m.L.ld++[(t:Int)] from hu) with hu|hu
     · exact .inr ⟨hu,h.nl hc h3 h4 u hu⟩
     · simp at hu
       exact .inl ⟨hu,by rcases hph with⟨_,h2⟩|⟨_,h2⟩<;>rw[h2]<;>simp⟩
   · have hp:m.L.pin (t:Int)=(1,{m.L with r:={m.L.r with pins:=m.L.r.pins+1,ref:=true}}):=by unfold Lf.pin;rw[fR (by omega),fO h0]
     rw[hp] at hu;exact .inr ⟨hu,h.nl hc h3 h4 u hu⟩
 · intro hs
   rcases h.lok.st3 with h0|h0|h0
   · have hp:m.L.pin (t:Int)=(3,{m.L with r:=⟨1,0,0,1,true,false,nd0⟩,rt:=some (t:Int)}):=by unfold Lf.pin;rw[fO h0]
     rw[hp] at hph
     exact .inl (by rcases hph with⟨_,h2⟩|⟨_,h2⟩<;>rw[h2]<;>simp)
   · exact .inr ⟨h0,h5⟩
   · exact absurd hs (by unfold Lf.pin;rw[fR (by omega),fO h0];show ¬m.L.r.st=1;omega)
theorem Inv0.fill {m:HM} (h:Inv0 m) {t:Nat} {c:Cl} (hc:m.cs[t]?=some c) (hpre:preC (t:Int) m.L c) {c':Cl} (e:fe (t:Int) m.L c=(m.L.fill,c',false,[])) (hr:m.L.rt=some (t:Int)) (h1:m.L.r.st=1) (hph:c.ph=.rd 2/\c'.ph=.rd 3\/c.ph=.wr 1/\c'.ph=.wr 2):Inv0 (m.client t):=by
 have hno:∀u,u∉Lt.tasks m.L.la:=fun u hu=>by have:=h.hold2 hu;omega
 have h6:∀a,c.ph≠.rm a:=by intro a;rcases hph with⟨h2,_⟩|⟨h2,_⟩<;>rw[h2]<;>simp
 refine h.mk' hc e hpre (fun u hu h0=>⟨fun _=>rfl,fun _=>.inr ⟨rfl,by rw[hr];simpa using hu.symm⟩,fun _ h=>.inl h,id,id,fun hw _=>absurd (Wg h0 hw) (hno u),rfl⟩) (h.lok.fill_ok h1) h.la h.sb ?_ (fun _=>rfl) (fun u hu=>by cases hu) (fun hs=>by cases hs) (fun u hu=>absurd hu (hno u)) (.inr (.inr ⟨rfl,h6⟩))
 rcases hph with⟨_,h2⟩|⟨_,h2⟩<;>(unfold CI;rw[h2];exact .inl rfl)
theorem Inv0.take {m:HM} (h:Inv0 m) {t:Nat} {c:Cl} (hc:m.cs[t]?=some c) (hpre:preC (t:Int) m.L c) {c':Cl} {w:Bool} (e:fe (t:Int) m.L c=(m.L.take t w,c',false,[])) (h2:m.L.r.st=2) (hph:c.ph=.rd 3/\c'.ph=.rd 5/\w=false\/c.ph=.wr 2/\c'.ph=.wr 3/\w=true):Inv0 (m.client t):=by
 obtain⟨n,hn⟩:=h.la
 have hnh:¬Ge c.ph:=by
  rintro (h1|h1|⟨a,h1⟩)<;>rcases hph with⟨h2,_⟩|⟨h2,_⟩<;>rw[h2] at h1<;>cases h1
 have h6:∀a,c.ph≠.rm a:=by intro a;rcases hph with⟨h2,_⟩|⟨h2,_⟩<;>rw[h2]<;>simp
 have hself:=Lt.take_self (m:=m.L.la) (t:=(t:Int)) (by omega) (fun hu=>h.nh hc hnh _ hu rfl) hn.toOk0 w
 refine h.mk' hc e hpre (fun u hu h0=>⟨id,fun h=>by omega,fun b hb=>.inl (Lt.take_q hb),Lt.take_rd,Lt.take_wr (by omega),fun _ _=>⟨rfl,rfl,rfl⟩,rfl⟩) (h.lok.la _) ⟨n+1,Lt.take_ok hn t w⟩ (Lt.take_stable h.sb t w) ?_ (fun hs=>h.ld0 (by omega)) (fun u hu=>by rw[show (m.L.take (t:Int) w).ld=m.L.ld from rfl,h.ld0 (by omega)] at hu;cases hu) (fun hs=>by have:m.L.r.st=1:=hs;omega) (fun u hu=>?_) (.inr (.inr ⟨rfl,h6⟩))
 · rcases hph with⟨_,h3,rfl⟩|⟨_,h3,rfl⟩
   · unfold CI;rw[h3];exact⟨h2,hself⟩
   · unfold CI;rw[h3];exact⟨h2,hself⟩
 · rcases Lt.take_tasks (by omega) hu with h3|h3
   · exact .inl ⟨h3,by rcases hph with⟨_,h3,_⟩|⟨_,h3,_⟩<;>rw[h3]<;>simp[Ge]⟩
   · exact .inr ⟨h3,h.nh hc hnh u h3⟩
theorem Inv0.leave {m:HM} (h:Inv0 m) {t:Nat} {c:Cl} (hc:m.cs[t]?=some c) (hpre:preC (t:Int) m.L c) {b:Bool} {evs:List Evt} {L1:Lf} (e:fe (t:Int) m.L c=(L1.leave t,c.done,b,evs)) (h2:m.L.r.st=2) (hh:Ge c.ph) (hL:L1.Ok) (hs1:L1.r.st=2) (hla:L1.la=m.L.la) (hld:L1.ld=m.L.ld) (hs:L1.s=m.L.s) (hw:∀u:Int,u≠(t:Int)->m.L.la.wr=u->0<=u->L1.cl=m.L.cl/\L1.ct=m.L.ct/\L1.r.nd=m.L.r.nd) (hcl:L1.cl=0\/(L1.cl=m.L.cl/\∀a,c.ph≠.rm a)):Inv0 (m.client t):=by
 obtain⟨n,hn⟩:=h.la
 have hun:∀L:Lf,L.unpin.la=L.la/\L.unpin.ld=L.ld/\L.unpin.s=L.s/\L.unpin.cl=L.cl/\L.unpin.ct=L.ct/\L.unpin.r.nd=L.r.nd/\L.unpin.r.st=L.r.st:=fun L=>by
  unfold Lf.unpin;split<;>exact⟨rfl,rfl,rfl,rfl,rfl,rfl,rfl⟩
 obtain⟨a1,a2,a3,a4,a5,a6,a7⟩:=hun (L1.drop (t:Int))
 have l1:(L1.leave (t:Int)).la=(Lt.dropL m.L.la t).2:=by show (L1.drop (t:Int)).unpin.la=_;rw[a1,<-hla];rfl
 have l2:(L1.leave (t:Int)).ld=m.L.ld:=by show (L1.drop (t:Int)).unpin.ld=_;rw[a2,<-hld];rfl
 have l3:(L1.leave (t:Int)).r.st=2:=by show (L1.drop (t:Int)).unpin.r.st=_;rw[a7];exact hs1
 have l4:(L1.leave (t:Int)).cl=L1.cl:=by show (L1.drop (t:Int)).unpin.cl=_;rw[a4];rfl
 refine h.mk' hc e hpre (fun u hu h0=>⟨fun _=>l3,fun h=>by omega,fun b hb=>by rw[l1];exact Lt.drop_q (by omega) (by omega) hu hb,fun hb=>by rw[l1];exact Lt.drop_rd (by omega) hu hb,fun hb=>by rw[l1];exact Lt.drop_wr (by omega) (by omega) hu hb,fun hb _=>?_,?_⟩) (Lf.Ok.unpin_ok (hL.la _)) (by rw[l1];exact⟨n,Lt.drop_ok hn t⟩) (by rw[l1];exact Lt.drop_stable (by omega)) trivial (fun _=>by rw[l2];exact h.ld0 (by omega)) (fun u hu=>by rw[l2,h.ld0 (by omega)] at hu;cases hu) (fun hs=>by rw[l3] at hs;cases hs) (fun u hu=>by rw[l1] at hu;have:=Lt.drop_tasks hn (by omega) hu;exact .inr ⟨this.2,this.1⟩) ?_
 · obtain⟨b1,b2,b3⟩:=hw u hu hb h0
   exact⟨by rw[l4,b1],by show (L1.drop (t:Int)).unpin.ct=_;rw[a5];exact b2,by show (L1.drop (t:Int)).unpin.r.nd=_;rw[a6];exact b3⟩
 · show (L1.drop (t:Int)).unpin.s=_;rw[a3];exact hs
 · rcases hcl with h3|⟨h3,h4⟩
   · exact .inl (by rw[l4];exact h3)
   · exact .inr (.inr ⟨by rw[l4];exact h3,h4⟩)
def Small (L:Lf) (c:Cl):Prop:=c.ph=.wr 3->L.r.st=2->Cd (lfd (Bu (lfe L) (mOf c.op)))=true\/(L.s.left<2/\2<=L.r.nd.es.length)
theorem op_mem {c:Cl} (h:c.nx<c.ops.length):c.op∈c.ops:=hY (op_at h)
theorem may_q {L:Lf} (h:L.mayH t=true):∀b,(t,b)∉L.la.q:=fun b hb=>by
 unfold Lf.mayH at h
 simp only[gQ,iF,im] at h
 exact h.1 (gj.2 ⟨_,hb,rfl⟩)
theorem Inv0.pre {m:HM} (h:Inv0 m) {t:Nat} {c:Cl} (hc:m.cs[t]?=some c) (hm:mayC (t:Int) m.L c=true):preC (t:Int) m.L c/\(c.ph≠.idle->m.L.mayH (t:Int)=true):=by
 have hop:=h.ops c (hY hc)
 have hci:=h.ci t c hc
 have hmay:c.ph≠.idle->m.L.mayH (t:Int)=true:=fun hn=>by
  unfold mayC at hm
  split at hm
  · rename_i e;exact absurd e hn
  · exact hm
 refine⟨?_,hmay⟩
 unfold CI at hci
 unfold preC
 split
 · rename_i e
   unfold mayC at hm
   rw[e] at hm
   have h1:c.nx<c.ops.length:=by
    have h2:¬c.nx=c.ops.length:=by simpa using hm
    have:=hop.2.1;omega
   exact⟨h1,hop.1 _ (op_mem h1)⟩
 · trivial
 · rename_i e;rw[e] at hci;exact hci
 · rename_i e;rw[e] at hci
   rcases hci with h1|⟨_,h1⟩
   · exact h1
   · exact absurd h1 (may_ld (hmay (by rw[e];simp)))
 · rename_i e;rw[e] at hci
   refine⟨hci.1,?_⟩
   rcases hci.2 with h1|h1
   · exact absurd h1 (may_q (hmay (by rw[e];simp)) _)
   · unfold DH;rw[jq h1,kC]
 · rename_i e1 e2 e3 e4 e;rw[e] at hci
   split at hci<;>simp_all
 · trivial
 · rename_i e;rw[e] at hci;exact hci
 · rename_i e;rw[e] at hci
   rcases hci with h1|⟨_,h1⟩
   · exact h1
   · exact absurd h1 (may_ld (hmay (by rw[e];simp)))
 · rename_i e;rw[e] at hci
   refine⟨hci.1,?_,E9 _⟩
   rcases hci.2 with h1|h1
   · exact absurd h1 (may_q (hmay (by rw[e];simp)) _)
   · exact h1
 · rename_i e1 e2 e3 e4 e;rw[e] at hci
   split at hci<;>simp_all
 · rename_i e;rw[e] at hci;exact⟨hci.1,hci.2.2.1⟩
 · rename_i e;rw[e] at hci;exact⟨hci.1,.inl hci.2.2.1,by have h9:m.L.cl=0:=hci.2.2.1;omega⟩
 · rename_i e;rw[e] at hci;exact⟨hci.1,.inr hci.2.2.2.1,by have h9:m.L.cl=1:=hci.2.2.1;omega⟩
 · rename_i e;rw[e] at hci;exact⟨hci.1,hci.2.2.1,hci.2.2.2.1,hci.2.2.2.2,by unfold DH;rw[jq hci.2.1];rfl⟩
 · rename_i e1 e2 e3 e4 e;rw[e] at hci
   split at hci<;>simp_all
theorem Inv0.same {m:HM} (h:Inv0 m) {t:Nat} {c:Cl} (hc:m.cs[t]?=some c) (hpre:preC (t:Int) m.L c) {c':Cl} {b:Bool} {evs:List Evt} (e:fe (t:Int) m.L c=(m.L,c',b,evs)) (hci:CI (t:Int) m.L c') (h1:c.ph≠.rd 3) (h2:c.ph≠.wr 2) (h3:c.ph≠.rd 2/\c.ph≠.wr 1) (h4:Ge c.ph->Ge c'.ph) (h5:m.L.cl=0\/(∃a,c'.ph=.rm a)\/∀a,c.ph≠.rm a):Inv0 (m.client t) :=
 h.mk' hc e hpre (fun u _ _=>Pres.refl u m.L) h.lok h.la h.sb hci h.ld0 (fun u hu=>.inr ⟨hu,h.nl hc h1 h2 u hu⟩) (fun hs=>.inr ⟨hs,h3⟩) (fun u hu=>by
  by_cases hh:Ge c.ph
  · by_cases e:u=(t:Int)
    · exact .inl ⟨e,h4 hh⟩
    · exact .inr ⟨hu,e⟩
  · exact .inr ⟨hu,h.nh hc hh u hu⟩) (by
  rcases h5 with h5|h5|h5
  · exact .inl h5
  · exact .inr (.inl h5)
  · exact .inr (.inr ⟨rfl,h5⟩))
theorem Inv0.claim {m:HM} (h:Inv0 m) {t:Nat} {c:Cl} (hc:m.cs[t]?=some c) (hpre:preC (t:Int) m.L c) {c':Cl} (e:fe (t:Int) m.L c=(m.L.claim t,c',false,[])) (hw:m.L.la.wr=(t:Int)) (hs:m.L.r.st=2) (h1:m.L.cl<=1) (hci:CI (t:Int) (m.L.claim t) c') (hr:∃a,c.ph=.rm a) (hr':∃a,c'.ph=.rm a):Inv0 (m.client t):=by
 obtain⟨a,hr⟩:=hr
 obtain⟨a',hr'⟩:=hr'
 refine h.mk' hc e hpre (fun u hu _=>⟨id,fun h=>.inl ⟨h,id,rfl⟩,fun _ h=>.inl h,id,id,fun h _=>absurd (by rw[<-h,hw]) hu,rfl⟩) (h.lok.claim_ok t h1) h.la h.sb hci h.ld0 (fun u hu=>.inr ⟨hu,h.nl hc (by rw[hr];simp) (by rw[hr];simp) u hu⟩) (fun hs=>.inr ⟨hs,by rw[hr];simp,by rw[hr];simp⟩) (fun u hu=>?_) (.inr (.inl ⟨a',hr'⟩))
 by_cases e:u=(t:Int)
 · exact .inl ⟨e,.inr (.inr ⟨a',hr'⟩)⟩
 · exact .inr ⟨hu,e⟩
theorem Inv0.client {m:HM} (h:Inv0 m) {t:Nat} {c:Cl} (hc:m.cs[t]?=some c) (hpre:preC (t:Int) m.L c) (hS:Small m.L c):Inv0 (m.client t):=by
 have hci:=h.ci t c hc
 obtain⟨ops,nx,ph⟩:=c
 cases ph with
 |idle =>
  by_cases hT:BX (Cl.op ⟨ops,nx,.idle⟩)=true
  · have e:fe (t:Int) m.L ⟨ops,nx,.idle⟩=(m.L,⟨ops,nx+1,.idle⟩,false,[evB t ⟨ops,nx,.idle⟩,evD t ⟨ops,nx,.idle⟩ ⟨2,false,kv0 16⟩]):=by
     unfold fe;simp only;rw[fO hT];rfl
    exact h.same hc hpre e trivial (by simp) (by simp) (by simp) (by rintro (h1|h1|⟨a,h1⟩)<;>cases h1) (.inr (.inr (by simp)))
  have e:fe (t:Int) m.L ⟨ops,nx,.idle⟩=(m.L,⟨ops,nx,if (Cl.op ⟨ops,nx,.idle⟩).kind=4 then .rd 1 else .wr 0⟩,false,[evB t ⟨ops,nx,.idle⟩]):=by
   unfold fe;simp only;rw[fR hT]
  refine h.same hc hpre e ?_ (by simp) (by simp) (by simp) (by rintro (h1|h1|⟨a,h1⟩)<;>cases h1) (.inr (.inr (by simp)))
  unfold CI
  by_cases h4:(Cl.op ⟨ops,nx,.idle⟩).kind=4
  · simp only[h4,gR]
  · simp only[h4,iL]
 |rd a =>
  match a,hpre with
  |1,hp=>exact h.pin hc (c:=⟨ops,nx,.rd 1⟩) hp (c':=⟨ops,nx,.rd (if (m.L.pin t).1=3 then 2 else 3)⟩) rfl (.inl ⟨rfl,rfl⟩)
  |2,hp=>exact h.fill hc (c:=⟨ops,nx,.rd 2⟩) hp (c':=⟨ops,nx,.rd 3⟩) rfl hp.1 hp.2 (.inl ⟨rfl,rfl⟩)
  |3,hp=>exact h.take hc (c:=⟨ops,nx,.rd 3⟩) hp (c':=⟨ops,nx,.rd 5⟩) (w:=false) rfl hp (.inl ⟨rfl,rfl,rfl⟩)
  |5,hp=>exact h.leave hc (c:=⟨ops,nx,.rd 5⟩) hp (L1:=m.L) rfl hp.1 (.inl rfl) h.lok hp.1 rfl rfl rfl (fun _ _ _ _=>⟨rfl,rfl,rfl⟩) (.inr ⟨rfl,by simp⟩)
 |wr a =>
  match a,hpre with
  |0,hp=>exact h.pin hc (c:=⟨ops,nx,.wr 0⟩) hp (c':=⟨ops,nx,.wr (if (m.L.pin t).1=3 then 1 else 2)⟩) rfl (.inr ⟨rfl,rfl⟩)
  |1,hp=>exact h.fill hc (c:=⟨ops,nx,.wr 1⟩) hp (c':=⟨ops,nx,.wr 2⟩) rfl hp.1 hp.2 (.inr ⟨rfl,rfl⟩)
  |2,hp=>exact h.take hc (c:=⟨ops,nx,.wr 2⟩) hp (c':=⟨ops,nx,.wr 3⟩) (w:=true) rfl hp (.inr ⟨rfl,rfl,rfl⟩)
  |3,hp =>
   by_cases hf:Cd (lfd (Bu (lfe m.L) (mOf (Cl.op ⟨ops,nx,.wr 3⟩))))=true
   · have e:fe (t:Int) m.L ⟨ops,nx,.wr 3⟩=((m.L.setN (Bu (lfe m.L) (mOf (Cl.op ⟨ops,nx,.wr 3⟩)))).leave t,Cl.done ⟨ops,nx,.wr 3⟩,true,[evD t ⟨ops,nx,.wr 3⟩ Bx]):=by
      show (if Cd (lfd (Bu (lfe m.L) (mOf (Cl.op ⟨ops,nx,.wr 3⟩))))=true then _ else _)=_
      rw[fO hf]
     exact h.leave hc hp e hp.1 (.inr (.inl I)) (h.lok.setN_ok hp.1 (UO (Fm hf).1) hf) hp.1 I I I (fun u hu hw _=>absurd (by rw[<-hw];exact hp.2.1) hu) (.inr ⟨rfl,by simp⟩)
   · have e:fe (t:Int) m.L ⟨ops,nx,.wr 3⟩=(m.L,⟨ops,nx,.rm 1⟩,false,[]):=by
      show (if Cd (lfd (Bu (lfe m.L) (mOf (Cl.op ⟨ops,nx,.wr 3⟩))))=true then _ else _)=_
      rw[fR hf]
     have hs:=(hS rfl hp.1).resolve_left hf
     refine h.same hc hp e ⟨hp.1,hp.2.1,hs.2,?_,hs.1⟩ (by simp) (by simp) (by simp) (fun _=>.inr (.inr ⟨1,rfl⟩)) (.inr (.inl ⟨1,rfl⟩))
     refine h.cl0 (fun v d hd a ha=>?_)
     have hv:=h.ci v d hd
     have hw:m.L.la.wr=(v:Int):=by
      unfold CI at hv;rw[ha] at hv
      split at hv<;>first|exact hv.2.1|(exact hv.elim)|simp_all
     have:v=t:=by have:=hp.2.1;omega
     subst this
     rw[hc] at hd;cases hd;cases ha
 |rm a =>
  match a,hpre with
  |1,hp=>exact h.same hc (c:=⟨ops,nx,.rm 1⟩) hp (c':=⟨ops,nx,.rm 6⟩) rfl ⟨hci.1,hci.2.1,hci.2.2.2.1,hci.2.2.2.2⟩ (by simp) (by simp) (by simp) (fun _=>.inr (.inr ⟨6,rfl⟩)) (.inr (.inl ⟨6,rfl⟩))
  |6,hp=>exact h.claim hc (c:=⟨ops,nx,.rm 6⟩) hp (c':=⟨ops,nx,.rm 7⟩) rfl hci.2.1 hp.1 hp.2.2 ⟨hci.1,hci.2.1,by show m.L.cl+1=1;rw[hci.2.2.1],rfl,hci.2.2.2⟩ ⟨6,rfl⟩ ⟨7,rfl⟩
  |7,hp=>exact h.claim hc (c:=⟨ops,nx,.rm 7⟩) hp (c':=⟨ops,nx,.rm 10⟩) rfl hci.2.1 hp.1 hp.2.2 ⟨hci.1,hci.2.1,by show m.L.cl+1=2;rw[hci.2.2.1],rfl,hci.2.2.2.2⟩ ⟨7,rfl⟩ ⟨10,rfl⟩
  |10,hp=>exact h.leave hc (c:=⟨ops,nx,.rm 10⟩) hp (L1:=m.L.give) rfl hp.1 (.inr (.inr ⟨10,rfl⟩)) h.lok.give_ok hp.1 rfl rfl rfl (fun u hu hw _=>absurd (by rw[<-hw];exact hci.2.1) hu) (.inl rfl)
structure Inv (m:HM):Prop extends Inv0 m where
 tn:m.T.n=m.cs.length+(m.nf+1)
 tl:m.T.st.length=m.T.n
 told:∀i,i<m.T.n->m.T.st.getD i 0=stI m i
theorem tellT_st (m:HM) (i:Nat):∀(k:Nat) (T:Sc.Tab),k<=T.n->T.st.length=T.n->(fb m k T).st.length=T.n/\(fb m k T).st.getD i 0=if i<k then (if T.st.getD i 0=2 then 2 else stI m i) else T.st.getD i 0
 |0,T,_,hl=>⟨hl,by simp[fb]⟩
 |k+1,T,hk,hl=>by
  obtain⟨h1,h2⟩:=tellT_st m i k T (by omega) hl
  have hn:=tellT_n m k T
  show (Sc.fj (fb m k T) (k:Int) (stI m k)).st.length=_/\(Sc.fj (fb m k T) (k:Int) (stI m k)).st.getD i 0=_
  unfold Sc.fj
  split
  · rename_i hc
    refine⟨by show ((fb m k T).st.set _ _).length=_;rw[je];exact h1,?_⟩
    show ((fb m k T).st.set (k:Int).toNat (stI m k)).getD i 0=_
    rw[Sc.getD_set,ie,h1]
    by_cases e:k=i
    · subst e
      rw[fO ⟨rfl,by omega⟩,fO (by omega)]
      have hc2:=hc.2.2
      rw[ie,h2,fR (by omega)] at hc2
      rw[fR hc2]
    · rw[fR (by simp[e]),h2]
      by_cases e2:i<k
      · rw[fO e2,fO (show i<k+1 by omega)]
      · rw[fR e2,fR (show ¬i<k+1 by omega)]
  · rename_i hc
    refine⟨h1,?_⟩
    rw[h2]
    by_cases e:k=i
    · subst e
      rw[fR (by omega),fO (by omega)]
      have h3:(fb m k T).st.getD k 0=2:=kD (fun h3=>hc ⟨by omega,by rw[hn];omega,by rw[ie];exact h3⟩)
      rw[h2,fR (by omega)] at h3
      rw[h3,fO rfl]
    · by_cases e2:i<k
      · rw[fO e2,fO (show i<k+1 by omega)]
      · rw[fR e2,fR (show ¬i<k+1 by omega)]
theorem pick_st (T:Sc.Tab) (p:Int):(Sc.fc T p).st=T.st:=by
 unfold Sc.fc
 split
 · rfl
 · show (Sc.stepsM _ _ _).st=_
   exact Sc.steps_st _ _ _
theorem YC {m:HM} {i:Nat} (h:stI m i=0):∃c,m.cs[i]?=some c/\mayC (i:Int) m.L c=true:=by
 unfold stI at h
 split at h
 · rename_i hm
   unfold mayI at hm
   cases hc:m.cs[i]? with
   |none=>rw[hc] at hm;cases hm
   |some c=>rw[hc] at hm;exact⟨c,rfl,hm⟩
 · split at h
   · split at h<;>cases h
   · cases h
theorem Inv.run {m:HM} (h:Inv m) {t:Nat} (ht:t∈Sc.fg m.T):∃c,m.cs[t]?=some c/\preC (t:Int) m.L c/\(c.ph≠.idle->m.L.mayH (t:Int)=true):=by
 have hlt:=Sc.runM_lt ht
 have h0:m.T.st.getD t 0=0:=by
  unfold Sc.fg at ht
  simpa using (jE.1 ht).2
 rw[h.told t hlt] at h0
 obtain⟨c,hc,hm⟩:=YC h0
 exact⟨c,hc,h.toInv0.pre hc hm⟩
theorem client_cs {m:HM} {t:Nat} {c:Cl} (hc:m.cs[t]?=some c):(m.client t).cs=m.cs.set t (fe (t:Int) m.L c).2.1:=by unfold HM.client;rw[hc]
theorem Tp (m:HM) (t:Nat):(m.client t).nf=m.nf:=by unfold HM.client;split<;>rfl
theorem Inv.tell {m:HM} (h:Inv m) {t:Nat} {c:Cl} (hc:m.cs[t]?=some c) (h0:m.T.st.getD t 0=0) (hi:Inv0 (m.client t)) (p:Int) (k:Nat):Inv {m.client t with T:=fb (m.client t) m.T.n (Sc.fc m.T p),pk:=k}:=by
 have hst:=pick_st m.T p
 have hn:=Sc.pick_n m.T p
 have hl:(Sc.fc m.T p).st.length=(Sc.fc m.T p).n:=by rw[hst,hn];exact h.tl
 refine⟨⟨hi.ops,hi.lok,hi.la,hi.sb,hi.n8,hi.ci,hi.ld0,hi.ldc,hi.ldr,hi.tk,hi.cl0⟩,?_,?_,fun i hin=>?_⟩
 · show (fb _ _ _).n=(m.client t).cs.length+_
   rw[tellT_n,hn,h.tn,client_cs hc,je,Tp]
 · show (fb _ _ _).st.length=(fb _ _ _).n
   rw[tellT_n,(tellT_st (m.client t) 0 m.T.n (Sc.fc m.T p) (by rw[hn];exact ga _) hl).1]
 · have hin2:i<m.T.n:=by
    have:i<(fb (m.client t) m.T.n (Sc.fc m.T p)).n:=hin
    rw[tellT_n,hn] at this;exact this
   show (fb _ _ _).st.getD i 0=stI (m.client t) i
   rw[(tellT_st (m.client t) i m.T.n (Sc.fc m.T p) (by rw[hn];exact ga _) hl).2,fO hin2,hst]
   split
   · rename_i h2
     have ht:i≠t:=fun e=>by subst e;rw[h0] at h2;cases h2
     rw[h.told i hin2] at h2
     unfold stI at h2
     split at h2
     · cases h2
     · split at h2
       · rename_i d hd
         split at h2
         · rename_i hen
           have hd2:(m.client t).cs[i]?=some d:=by rw[client_cs hc,ku (iA ht)];exact hd
           have hph:d.ph=.idle/\d.nx=d.ops.length:=by unfold Cl.ended at hen;simpa using hen
           unfold stI
           have hmi:mayI (m.client t) i=false:=by
            unfold mayI;rw[hd2];show mayC _ _ d=false
            unfold mayC;rw[hph.1];simp[hph.2]
           rw[hmi,fR (by decide),hd2]
           simp only
           rw[fO hen]
         · cases h2
       · cases h2
   · rfl
theorem stepH_cases {m:HM} (h:Inv m) (p:Int):(ff m p=m/\Sc.fg m.T=[])\/∃(t:Nat) (c:Cl),m.cs[t]?=some c/\m.T.st.getD t 0=0/\preC (t:Int) m.L c/\ff m p={m.client t with T:=fb (m.client t) m.T.n (Sc.fc m.T p),pk:=m.pk+1}:=by
 unfold ff
 split
 · rename_i hr;exact .inl ⟨rfl,hr⟩
 · rename_i hr
   have hmem:=Sc.who_mem p hr
   obtain⟨c,hc,hpre,_⟩:=h.run hmem
   refine .inr ⟨Sc.whoM m.T p,c,hc,?_,hpre,?_⟩
   · unfold Sc.fg at hmem
     simpa using (jE.1 hmem).2
   · have e:({m with T:=Sc.fc m.T p,pk:=m.pk+1}:HM).client (Sc.whoM m.T p)={m.client (Sc.whoM m.T p) with T:=Sc.fc m.T p,pk:=m.pk+1}:=by
      unfold HM.client
      show (match m.cs[Sc.whoM m.T p]? with|some c=>_|none=>_)=_
      rw[hc]
     rw[e]
     have e2:∀k,fb {m.client (Sc.whoM m.T p) with T:=Sc.fc m.T p,pk:=m.pk+1} k (Sc.fc m.T p)=fb (m.client (Sc.whoM m.T p)) k (Sc.fc m.T p):=fun k=>by
      induction k with
      |zero=>rfl
      |succ k ih=>show Sc.fj (fb _ k _) _ _=Sc.fj (fb _ k _) _ _;rw[ih];rfl
     rw[e2]
def rk:Ph->Nat
 |.idle=>0
 |.rd 1=>8
 |.rd 2=>7
 |.rd 3=>6
 |.rd _=>5
 |.wr 0=>8
 |.wr 1=>7
 |.wr 2=>6
 |.wr _=>5
 |.rm 1=>4
 |.rm 6=>3
 |.rm 7=>2
 |.rm _=>1
def muC (c:Cl):Nat:=if c.ph=.idle then 9*(c.ops.length-c.nx) else 9*(c.ops.length-c.nx-1)+rk c.ph
def mu (m:HM):Nat:=(m.cs.map muC).sum
theorem Wi {L:Lf} {c:Cl} (hp:preC t L c) (hn:c.ph≠.idle->c.nx<c.ops.length):muC (fe t L c).2.1<muC c:=by
 obtain⟨ops,nx,ph⟩:=c
 have hr:∀a b:Nat,rk (.rd (if a=3 then 2 else 3))<8/\rk (.wr (if a=3 then 1 else 2))<8:=fun a b=>by
  constructor<;>split<;>decide
 have hd:∀k:Nat,0<k->nx<ops.length->9*(ops.length-(nx+1))<9*(ops.length-nx-1)+k:=fun k hk h=>by omega
 cases ph with
 |idle =>
  obtain⟨h1,_⟩:=hp
  have h1:nx<ops.length:=h1
  unfold fe;dsimp only
  by_cases hT:BX (Cl.op ⟨ops,nx,.idle⟩)=true
  · rw[fO hT]
    show muC ⟨ops,nx+1,.idle⟩<muC ⟨ops,nx,.idle⟩
    unfold muC;simp;omega
  rw[fR hT]
  show muC ⟨ops,nx,if (Cl.op ⟨ops,nx,.idle⟩).kind=4 then .rd 1 else .wr 0⟩<muC ⟨ops,nx,.idle⟩
  unfold muC
  by_cases h4:(Cl.op ⟨ops,nx,.idle⟩).kind=4
  · simp only[h4,gR];simp[rk];omega
  · simp only[h4,iL];simp[rk];omega
 |rd a =>
  have h1:nx<ops.length:=hn (by simp)
  match a,hp with
  |1,_ =>
   show muC ⟨ops,nx,.rd (if (L.pin t).1=3 then 2 else 3)⟩<_
   unfold muC
   by_cases h3:(L.pin t).1=3<;>simp[h3,rk]
  |2,_=>show muC ⟨ops,nx,.rd 3⟩<_;unfold muC;simp[rk]
  |3,_=>show muC ⟨ops,nx,.rd 5⟩<_;unfold muC;simp[rk]
  |5,_=>show muC ⟨ops,nx+1,.idle⟩<_;unfold muC;simp[rk];omega
 |wr a =>
  have h1:nx<ops.length:=hn (by simp)
  match a,hp with
  |0,_ =>
   show muC ⟨ops,nx,.wr (if (L.pin t).1=3 then 1 else 2)⟩<_
   unfold muC
   by_cases h3:(L.pin t).1=3<;>simp[h3,rk]
  |1,_=>show muC ⟨ops,nx,.wr 2⟩<_;unfold muC;simp[rk]
  |2,_=>show muC ⟨ops,nx,.wr 3⟩<_;unfold muC;simp[rk]
  |3,_ =>
   show muC (if Cd (lfd (Bu (lfe L) (mOf (Cl.op ⟨ops,nx,.wr 3⟩))))=true then _ else _:Lf×Cl×Bool×List Evt).2.1<_
   split
   · show muC ⟨ops,nx+1,.idle⟩<_;unfold muC;simp[rk];omega
   · show muC ⟨ops,nx,.rm 1⟩<_;unfold muC;simp[rk]
 |rm a =>
  have h1:nx<ops.length:=hn (by simp)
  match a,hp with
  |1,_=>show muC ⟨ops,nx,.rm 6⟩<_;unfold muC;simp[rk]
  |6,_=>show muC ⟨ops,nx,.rm 7⟩<_;unfold muC;simp[rk]
  |7,_=>show muC ⟨ops,nx,.rm 10⟩<_;unfold muC;simp[rk]
  |10,_=>show muC ⟨ops,nx+1,.idle⟩<_;unfold muC;simp[rk];omega
theorem RG:∀{l:List Cl} {t:Nat} {c c':Cl},l[t]?=some c->muC c'<muC c->((l.set t c').map muC).sum<(l.map muC).sum
 |[],t,c,c',h,_=>by simp at h
 |x::l,0,c,c',h,hl=>by simp at h;subst h;simp[hl]
 |x::l,t+1,c,c',h,hl=>by
  have:=RG (l:=l) (t:=t) (c:=c) (c':=c') (by simpa using h) hl
  simpa using this
end Lo
end Go.Proofs.YtloldofjddbjoaaGreat
