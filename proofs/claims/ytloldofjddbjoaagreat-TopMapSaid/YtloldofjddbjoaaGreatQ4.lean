/- Part 4 of the proof: texts of my own, laid behind one another. No condition. -/
import Derived.Test.YtloldofjddbjoaaGreatQ3
set_option linter.unusedVariables false
set_option linter.unusedSimpArgs false
set_option maxHeartbeats 8000000
set_option maxRecDepth 100000
namespace Go.Proofs.YtloldofjddbjoaaGreat
open Go.Sep Go.RowKit Tryz
variable {M:Mo} {B i n m d:Nat} {l:List En} {va vb:Value} {t b:Int} {e tx:TypeId} {x:Operand} {u:Bool} {β:Type}
theorem Ma (nv:NV) (m:Ms) (hlf:nv.d.leaf=false) (hr:BE Ms.key nv.d.msgs) (hr2:BE Ms.key (C9 nv.d.msgs m)) (hn:nv.d.Sm 30000):Con prog 253 [.agg nv.c.toArray,.agg m.c.toArray] (λw=>NRd w nv) [] (λs:Sv=>if GC (Ek nv.d m)=true then .tuple #[.agg (⟨⟨nv.s.e,nv.s.k,nv.s.p,s⟩,Ek nv.d m⟩:NV).c.toArray,.bool true] else .tuple #[.agg nv.c.toArray,.bool false]) Tr (λs=>[EN s (C9 nv.d.msgs m)]):=by
 intro w hE hH
 refine E0 func253 I hH (Cs I (l_e I (AT I I I I (λbn=>Ce nv.c I (l_e I (AT I I I I (λbm=>Ce m.c I (l_e I (Au I I I zeroValue135 (λbr=>Ce nv0.c I (Ak I (Af ?_))))))))))))
 have hin:(Ek nv.d m).msgs.length<=nv.d.msgs.length+1:=KU _ _
 obtain⟨n1,n2,n3,n4⟩:=hn
 refine Dw (λ(s:Sv) (bx:Nat)=>[(2,pV bn),(4,pV br),(6,pV bx)]) (λ(s:Sv) (bx:Nat)=>St w [] [EN s (C9 nv.d.msgs m),Ad bx 135 (⟨⟨nv.s.e,nv.s.k,nv.s.p,s⟩,Ek nv.d m⟩:NV).c,Ad br 135 nv0.c,Ad bm 154 m.c,Ad bn 135 nv.c]) (λ(s:Sv) (bx:Nat)=>True) ?_ ?_
 .refine Fo (λw2=>(Ad bn 135 nv.c).at w2/\(Ad bm 154 m.c).at w2) I St.drawn (Aq 0 I (H2 2 1 I) (AQ (nv.c) I Bx AU I (λ_ h=>h.1) (I) (I)) (Aq 3 I (H2 2 1 I) (AQ (nv.c) I Bx AU I (λ_ h=>h.1) (I) (I)) (Aq 4 I (H2 2 1 I) (AQ (m.c) I Cm Bl I (λ_ h=>h.2) (Br _) (Ms.ko _)) (IJ 1 5 7 (by kernel_rfl) I I I I I I ?_ ?_ ?_))))
  .refine E1 (FO nv hlf) I call270 Tt (λ_ _=>Ai (H2 2 1 I) (Aq 2 I (H2 2 1 I) (DM I JK I L3 I I) (Ay2 5 7 I ?_ ?_)))
   .refine Ax (sz:=29) [.tmp 11] I I I I I BO Bl I zeroValue154 (by simp[Value.cells,Ms.ko]) (λbl=>Ai (H2 3 2 I) (Ay2 6 7 I ?_ ?_))
    .refine CE (C1 nv [m] (Ds hr hr2) (by show nv.d.msgs.length+1<=40000; omega)) I I I I call296 I (λ_ h=>⟨hE.keep h,AY (h.at 0 I) Ms.enc [m] I rfl⟩) ?_
     rintro⟨s,own⟩ ⟨ho,_⟩
     have ho2:=ho (by simp)
     dsimp only at ho2
     subst ho2
     refine Cw (Ai (H2 4 3 I) (Ay 7 I (Au I I I zeroValue135 (λbx=>Ce nv0.c I (Ai (H2 5 4 I) (Ay 8 I (SW AU I (NV.one _) (Ai (H2 5 4 I) (An (AX (Av (Pm [1] I ?_))))))))))))
     exact Bc ((s,bx)) trivial (Si I) (λ_ h=>h)
    .refine Au I I I zeroValue135 (λbx=>Ce nv0.c I (Ai (H2 4 3 I) (Ay 6 I (CE (C1 nv [m] (Ds hr hr2) (by show nv.d.msgs.length+1<=40000; omega)) I I I I call296 I (λ_ h=>⟨hE.keep h,AY (h.at 1 I) Ms.enc [m] I rfl⟩) ?_))))
     rintro⟨s,own⟩ ⟨ho,_⟩
     have ho2:=ho (by simp)
     dsimp only at ho2
     subst ho2
     refine Cw (Ai (H2 5 4 I) (AM (Ay 8 I (SW AU I (NV.one _) (Ai (H2 5 4 I) (An (AX (Av (Pm [1] I ?_)))))))))
     exact Bc ((s,bx)) trivial (Si I) (λ_ h=>h)
   .refine Au I I I zeroValue135 (λbx=>Ce nv0.c I (Ai (H2 3 2 I) (Ay 5 I (Ax (sz:=29) [.tmp 11] I I I I I BO Bl I zeroValue154 (by simp[Value.cells,Ms.ko]) (λbl=>Ai (H2 4 3 I) (Ay 6 I (CE (C1 nv [m] (Ds hr hr2) (by show nv.d.msgs.length+1<=40000; omega)) I I I I call296 I (λ_ h=>⟨hE.keep h,AY (h.at 0 I) Ms.enc [m] I rfl⟩) ?_)))))))
    rintro⟨s,own⟩ ⟨ho,_⟩
    have ho2:=ho (by simp)
    dsimp only at ho2
    subst ho2
    refine Cw (Ai (H2 5 4 I) (AX (Ay 8 I (SW AU I (NV.one _) (Ai (H2 5 4 I) (An (AX (Av (Pm [1] I ?_)))))))))
    exact Bc ((s,bx)) trivial (Si I) (λ_ h=>h)
  .refine Ax (sz:=29) [.tmp 11] I I I I I BO Bl I zeroValue154 (by simp[Value.cells,Ms.ko]) (λbl=>Ai (H2 3 2 I) (Ay2 1 7 I ?_ ?_))
   .refine E1 (FO nv hlf) I call270 Tt (λ_ _=>Ai (H2 3 2 I) (Aq 2 I (H2 3 2 I) (DM I JK I L3 I I) (Ay2 6 7 I ?_ ?_)))
    .refine CE (C1 nv [m] (Ds hr hr2) (by show nv.d.msgs.length+1<=40000; omega)) I I I I call296 I (λ_ h=>⟨hE.keep h,AY (h.at 0 I) Ms.enc [m] I rfl⟩) ?_
     rintro⟨s,own⟩ ⟨ho,_⟩
     have ho2:=ho (by simp)
     dsimp only at ho2
     subst ho2
     refine Cw (Ai (H2 4 3 I) (Ay 7 I (Au I I I zeroValue135 (λbx=>Ce nv0.c I (Ai (H2 5 4 I) (Ay 8 I (SW AU I (NV.one _) (Ai (H2 5 4 I) (An (AX (Av (Pm [1] I ?_))))))))))))
     exact Bc ((s,bx)) trivial (Si I) (λ_ h=>h)
    .refine Au I I I zeroValue135 (λbx=>Ce nv0.c I (Ai (H2 4 3 I) (Ay 6 I (CE (C1 nv [m] (Ds hr hr2) (by show nv.d.msgs.length+1<=40000; omega)) I I I I call296 I (λ_ h=>⟨hE.keep h,AY (h.at 1 I) Ms.enc [m] I rfl⟩) ?_))))
     rintro⟨s,own⟩ ⟨ho,_⟩
     have ho2:=ho (by simp)
     dsimp only at ho2
     subst ho2
     refine Cw (Ai (H2 5 4 I) (AM (Ay 8 I (SW AU I (NV.one _) (Ai (H2 5 4 I) (An (AX (Av (Pm [1] I ?_)))))))))
     exact Bc ((s,bx)) trivial (Si I) (λ_ h=>h)
   .refine Au I I I zeroValue135 (λbx=>Ce nv0.c I (Ai (H2 4 3 I) (Ay 1 I (E1 (FO nv hlf) I call270 Tt (λ_ _=>Ai (H2 4 3 I) (Aq 2 I (H2 4 3 I) (DM I JK I L3 I I) (Ay 6 I (CE (C1 nv [m] (Ds hr hr2) (by show nv.d.msgs.length+1<=40000; omega)) I I I I call296 I (λ_ h=>⟨hE.keep h,AY (h.at 1 I) Ms.enc [m] I rfl⟩) ?_))))))))
    rintro⟨s,own⟩ ⟨ho,_⟩
    have ho2:=ho (by simp)
    dsimp only at ho2
    subst ho2
    refine Cw (Ai (H2 5 4 I) (AM (Ay 8 I (SW AU I (NV.one _) (Ai (H2 5 4 I) (An (AX (Av (Pm [1] I ?_)))))))))
    exact Bc ((s,bx)) trivial (Si I) (λ_ h=>h)
  .refine Au I I I zeroValue135 (λbx=>Ce nv0.c I (Ai (H2 3 2 I) (Ay2 1 5 I ?_ ?_)))
   .refine E1 (FO nv hlf) I call270 Tt (λ_ _=>Ai (H2 3 2 I) (Aq 2 I (H2 3 2 I) (DM I JK I L3 I I) (Ay 5 I (Ax (sz:=29) [.tmp 11] I I I I I BO Bl I zeroValue154 (by simp[Value.cells,Ms.ko]) (λbl=>Ai (H2 4 3 I) (Ay 6 I (CE (C1 nv [m] (Ds hr hr2) (by show nv.d.msgs.length+1<=40000; omega)) I I I I call296 I (λ_ h=>⟨hE.keep h,AY (h.at 0 I) Ms.enc [m] I rfl⟩) ?_)))))))
    rintro⟨s,own⟩ ⟨ho,_⟩
    have ho2:=ho (by simp)
    dsimp only at ho2
    subst ho2
    refine Cw (Ai (H2 5 4 I) (AX (Ay 8 I (SW AU I (NV.one _) (Ai (H2 5 4 I) (An (AX (Av (Pm [1] I ?_)))))))))
    exact Bc ((s,bx)) trivial (Si I) (λ_ h=>h)
   .refine Ax (sz:=29) [.tmp 11] I I I I I BO Bl I zeroValue154 (by simp[Value.cells,Ms.ko]) (λbl=>Ai (H2 4 3 I) (Ay 1 I (E1 (FO nv hlf) I call270 Tt (λ_ _=>Ai (H2 4 3 I) (Aq 2 I (H2 4 3 I) (DM I JK I L3 I I) (Ay 6 I (CE (C1 nv [m] (Ds hr hr2) (by show nv.d.msgs.length+1<=40000; omega)) I I I I call296 I (λ_ h=>⟨hE.keep h,AY (h.at 0 I) Ms.enc [m] I rfl⟩) ?_)))))))
    rintro⟨s,own⟩ ⟨ho,_⟩
    have ho2:=ho (by simp)
    dsimp only at ho2
    subst ho2
    refine Cw (Ai (H2 5 4 I) (AX (Ay 8 I (SW AU I (NV.one _) (Ai (H2 5 4 I) (An (AX (Av (Pm [1] I ?_)))))))))
    exact Bc ((s,bx)) trivial (Si I) (λ_ h=>h)
 .intro s bx _
  refine Af (Cs I (Lq I (Cq ((⟨⟨nv.s.e,nv.s.k,nv.s.p,s⟩,Ek nv.d m⟩:NV).c) Bx AU 1 I (I) (I)) (l_e I (E1 (JD (⟨⟨nv.s.e,nv.s.k,nv.s.p,s⟩,Ek nv.d m⟩:NV) hlf ⟨mf n1 (by decide),mf n2 (by decide),mf n3 (by decide),by show (C9 nv.d.msgs m).length<=50000; have:(C9 nv.d.msgs m).length<=nv.d.msgs.length+1:=hin; omega⟩) I call216 (λ_ h=>⟨hE.e.keep h (by simp),hE.k.keep h (by simp),hE.p.keep h (by simp),h.rd 0 rfl⟩) (λ_ _=>Lq I (Qt I) (Nk (CB 16 I (λhf=>?_) (λhf=>?_))))))))
  .exact Ah I (Cs I (Lq I (Cq (nv.c) Bx AU 4 I (I) (I)) (AX (l_e I (SW AU I (NV.one _) (Ak I (Ag (Ac (AM (BM I (AK I Bx AU (Hat 1 I) (I)) (id I) (λ_ h=>⟨s,by dsimp only; rw[lz (by rw[show GC (Ek nv.d m)=false from hf]; decide)],T0,h.sublist (oQ.2 (nF _))⟩)))))))))))
  .exact Aa I (Ae (Kt (Cs I (Lq I (Cq ((⟨⟨nv.s.e,nv.s.k,nv.s.p,s⟩,Ek nv.d m⟩:NV).c) Bx AU 1 I (I) (I)) (AX (l_e I (SW AU I (NV.one _) (Ak I (Ag (AM (BM I (AK I Bx AU (Hat 1 I) (I)) (id I) (λ_ h=>⟨s,by dsimp only; rw[lu (show GC (Ek nv.d m)=true from hf)],T0,h.sublist (oQ.2 (nF _))⟩))))))))))))
def FE (l:List En) (n:Nat):Bool:=decide (n<l.length-1)&&decide (lby (l.take n)<lby l-lby (l.take n))
def spl (l:List En):Nat:=((List.range l.length).takeWhile (FE l)).length
abbrev tkS (nv:NV):List En:=nv.d.es.take (spl nv.d.es)
abbrev dpS (nv:NV):List En:=nv.d.es.drop (spl nv.d.es)
abbrev kyS (nv:NV):Kv 8:=(nv.d.es.getD (spl nv.d.es) en0).key
theorem Xc (hi:i<l.length) (h1:∀j,j<i->FE l j=true) (h2:FE l i=false):spl l=i:=by
 unfold spl
 have hr:∀k,k<l.length->(List.range l.length)[k]?=some k:=λk hk=>by rw[kY (by rw[oN]; exact hk)]; simp
 have hle:((List.range l.length).takeWhile (FE l)).length<=l.length:=by have:=(o6 (p:=FE l) (l:=List.range l.length)).length_le; rwa[oN] at this
 rcases Nat.lt_trichotomy ((List.range l.length).takeWhile (FE l)).length i with h|h|h
 .have h3:=JX (p:=FE l) (l:=List.range l.length) (hr _ (by omega))
  rw[h1 _ h] at h3; cases h3
 .exact h
 .have h3:=Py (p:=FE l) h (hr i hi)
  rw[h2] at h3; cases h3
theorem Xd (h2:2<=l.length) (hp:0<lby l):FE l 0=true:=by
 unfold FE
 rw[od (by omega),od (by simp[lby]; exact hp)]; rfl
theorem Xe {e:En} (h:l[i]?=some e):lby (l.take (i+1))=lby (l.take i)+lsz e:=FD h
section
variable {P:Program} {n:Nat} {L:Env} {X:World->Prop} {fn:Func} {R:Ending->World->Prop}
theorem N9 {r r' s s':ResultVar} {u v x y:Value} (hr:fn.results=#[r,r',s,s']) (h1:H7 P L X r u) (h2:H7 P L X r' v) (h3:H7 P L X s x) (h4:H7 P L X s' y) (hR:∀w,X w->R (.returned (.tuple #[u,v,x,y])) w):Pre n L X (bodyPost P fn R .ret):=λa w k hx =>
 ⟨k.defers,_,by rw[Hw,hr]; simp[DR k hx h1,DR k hx h2,DR k hx h3,DR k hx h4],hR w hx⟩
end
theorem PO (l:List En) (hb:∀e∈l,e.Bd) (h2l:2<=l.length) (hpos:0<lby l) (hn:l.length<=30000):Con prog 295 [va] (λw=>RdV w va En.enc l) [] (λv:Value×Value=>.tuple #[v.1,v.2,.agg (l.getD (spl l) en0).key.c.toArray,.bool true]) Tr (λv=>[AA v.1 79 En.enc (l.take (spl l)),AA v.2 79 En.enc (l.drop (spl l))]):=by
 intro w hl hH
 have hbl:=Rw hb l.length
 rw[oG] at hbl
 have hbl2 : -2000*(l.length:Int)<=lby l/\lby l<=2002*(l.length:Int):=hbl
 refine E0 func295 I hH (Cs I (Mv 2 I (l_e I (Au I I I zeroValue77 (λbp=>Ce (kv0 8).c I (Ak I (Af (Cs I (Lm I (Lq I (AJ I U49 I hl.kp) (Lq I (Ql I) (Nk (Sf 11 I (by omega) (Aa I (Ae (Kt (Cs I (Lm I (l_e I (E1 (JB l hb (by omega)) I call307 hl.kp (λ_ _=>Las I (Las I (Ak I (Af ?_))))))))))))))))))))))))
 refine GQ (λ(i:Nat)=>[(0,va),(4,pV bp),(6,.int .i64 (i:Int))]) (λ(i:Nat)=>St w [] [Ad bp 77 (kv0 8).c]) (λ(i:Nat)=>i<l.length/\0<i/\spl l=i) ?_ ?_
 .refine Aj ?_
  refine A0 (λ(i:Nat)=>[(0,va),(4,pV bp),(6,.int .i64 (i:Int)),(7,.int .i64 (lby (l.take i))),(8,.int .i64 (lby l))]) (λ(i:Nat)=>St w [] [Ad bp 77 (kv0 8).c]) (λ(i:Nat)=>i<l.length/\∀j,j<i->FE l j=true) (λ(i:Nat)=>l.length-i) (0) ⟨by omega,λj h=>absurd h (ov _)⟩ (Si I) Ih (λi hp=>Af (Af ?_))
  obtain⟨hi,hj⟩:=hp
  have hti:=Rw hb i
  have hti2 : -2000*(i:Int)<=lby (l.take i)/\lby (l.take i)<=2002*(i:Int):=hti
  refine Cr I (Mv 2 I (Lq I (AJ I U49 I hl.kp) (Lq I (CM I I I) (Mv 2 I (CB 20 I (λh1=>?_) (λh1=>?_))))))
  .refine Mv 3 I (Lq I (CM I I I) (Mv 2 I (Nk (CB 26 I (λh2=>?_) (λh2=>?_)))))
   .have hbi:FE l i=true:=by unfold FE; rw[od (show i<l.length-1 by omega),od h2]; rfl
    obtain⟨c,hc⟩:=gE l i
    have hcb:=hb c (mQ hc)
    have hsn:=Xe hc
    have hcs:lsz c=2+c.key.n+c.val.n:=rfl
    unfold En.Bd at hcb
    refine Ah I (Ae (Kt (Aj (Cs I (Mv 3 I (Lq I (Ar i I U49 Z79 I hl.kp I I) (Lq I (AV i I G79 Z79 I I hl.kp hc) (l_e I (E1 (KR c (hb c (mQ hc))) I call308 Tt (λ_ _=>Lq I (Bh I I I) (Ak I (Cr I (Lm I (Lq I (Qi I) (Las I (AB (Aw ?_)))))))))))))))))
    exact AE (i+1) (by omega) ⟨by omega,λj h=>by
     rcases o8.1 h with h|rfl
     .exact hj j h
     .exact hbi⟩ (Sub.cons I (Sub.cons I (Sub.cons I (Sub.consE I (by rw[hsn]) (Si I))))) (λ_ h=>h)
   .have hbi:FE l i=false:=by unfold FE; rw[oc h2]; simp
    have hsp:spl l=i:=Xc hi hj hbi
    have h0:0<i:=by
     rcases lN i with h|h
     .subst h; rw[Xd h2l hpos] at hbi; cases hbi
     .exact h
    refine Aa I (AO (Ab (Ab (Am ?_))))
    exact Bc (i) ⟨hi,h0,hsp⟩ (Si I) (λ_ h=>h)
  .have hbi:FE l i=false:=by unfold FE; rw[oc (show ¬i<l.length-1 by omega)]; rfl
   have hsp:spl l=i:=Xc hi hj hbi
   have h0:0<i:=by
    rcases lN i with h|h
    .subst h; rw[Xd h2l hpos] at hbi; cases hbi
    .exact h
   refine Mv 6 I (Nk (Aa I (AO (Ab (Ab (Am ?_))))))
   exact Bc (i) ⟨hi,h0,hsp⟩ (Si I) (λ_ h=>h)
 .rintro i ⟨hi,h0,hsp⟩
  refine Af ?_
  obtain⟨c,hc⟩:=gE l i
  have hrl:∀k,(List.replicate k en0).length=k:=λk=>oy ..
  refine Dw (λ(va2:Value) (vb2:Value)=>[(0,va),(2,va2),(3,vb2),(4,pV bp),(6,.int .i64 (i:Int))]) (λ(va2:Value) (vb2:Value)=>St w [] [AA va2 79 En.enc (List.replicate i en0),AA vb2 79 En.enc (List.replicate (l.length-i) en0),Ad bp 77 (kv0 8).c]) (λ(va2:Value) (vb2:Value)=>True) ?_ ?_
  .refine Fo (λw2=>RdV w2 va En.enc l) I St.drawn (Aq 0 I hl.kp (Bi I I) (Aq 2 I hl.kp (Bi I I) (Aq 3 I hl.kp (AJ I U49 I Ih) (Aq 4 I hl.kp (Bi I I) (Aq 5 I hl.kp (CM I I I) (Ay2 1 6 I ?_ ?_))))))
   .refine BR En.enc en0 i I I I U49 CK I I I I I I I (by simp only[Gq]; omega) (by omega) (λva=>Ai hl.kp (Aq 7 I hl.kp (AF I I) (Ay 6 I (BR En.enc en0 (l.length-i) I I I U49 CK I I I I I (by omega) (by omega) (by simp only[Gq]; omega) (by omega) (λvb=>Ai hl.kp (Aq 8 I hl.kp (AF I I) (An (Pm [1] I ?_))))))))
    exact Bc ((va,vb)) trivial (Si I) (λ_ h=>h)
   .refine BR En.enc en0 (l.length-i) I I I U49 CK I I I I I (by omega) (by omega) (by simp only[Gq]; omega) (by omega) (λvb=>Ai hl.kp (Ay 1 I (BR En.enc en0 i I I I U49 CK I I I I I I I (by simp only[Gq]; omega) (by omega) (λva=>Ai hl.kp (Aq 7 I hl.kp (AF I I) (Aq 8 I hl.kp (AF I I) (An ?_)))))))
    exact Bc ((va,vb)) trivial (Si I) (λ_ h=>h)
  .intro va2 vb2 _
   refine Af (Dk (by rw[oy]; omega) (λba capa prea posta hva hcapa hposta=>?_))
   subst hva
   rw[oy] at hcapa hposta
   rw[oy]
   have hcla:(prea++En.enc.flat (List.replicate i en0)++posta).length=prea.length+i*26+posta.length:=by rw[lp,lp,Enc.kB,oy]; rfl
   have hmna:min (l).length i=i:=Nat.min_eq_right (by omega)
   have htka:(l).take (min (l).length i)=(l.take i):=by rw[hmna]
   have hnla:((l.take i)).length=i:=by rw[k9]; omega
   refine Cr I (Mv 2 I (l_e I (Rg (E:=En.enc) (l:=l) I I I U49 Z79 I I hl.kp (by rw[hcla,hmna]; show prea.length+i*26<=_; omega) (AR (cs':=prea++En.enc.flat ((l.take i))++posta) (by rw[htka]; exact Sep.splice_part _ _ prea posta (by rw[Enc.kB,Enc.kB,oy,hnla])) (FL (E:=En.enc) (len:=i) (cap:=capa) ((l.take i)) prea posta I hnla (by omega) hcapa hposta (Nk (Cs I (Mv 3 I (Lq I (Ef i I U49 Z79 I hl.kp I I (by omega)) (AM (Dk (by rw[oy]; omega) (λbb capb preb postb hvb hcapb hpostb=>?_))))))))))))
   subst hvb
   rw[oy] at hcapb hpostb
   rw[oy]
   have hclb:(preb++En.enc.flat (List.replicate (l.length-i) en0)++postb).length=preb.length+(l.length-i)*26+postb.length:=by rw[lp,lp,Enc.kB,oy]; rfl
   have hmnb:min ((l.drop i)).length (l.length-i)=(l.length-i):=by rw[lk]; exact Nat.min_self _
   have htkb:((l.drop i)).take (min ((l.drop i)).length (l.length-i))=(l.drop i):=by rw[hmnb]; exact lI (by rw[lk]; exact lJ _)
   have hnlb:((l.drop i)).length=(l.length-i):=lk
   refine l_e I (Rg (E:=En.enc) (l:=(l.drop i)) I I I U49 Z79 I I (λ_ h=>by have:=CH (hl.keep h (by simp)) (lo:=i) (hi:=l.length) (by omega) (lJ _); rwa[oG] at this) (by rw[hclb,hmnb]; show preb.length+(l.length-i)*26<=_; omega) (AR (cs':=preb++En.enc.flat ((l.drop i))++postb) (by rw[htkb]; exact Sep.splice_part _ _ preb postb (by rw[Enc.kB,Enc.kB,oy,hnlb])) (FL (E:=En.enc) (len:=(l.length-i)) (cap:=capb) ((l.drop i)) preb postb I hnlb (by omega) hcapb hpostb (Ns (Do8 (rg 11) 157464 (λw2=>RdV w2 va En.enc l) I St.drawn hl.kp (Md 4 I (Dq I (Ar i I U49 Z79 I Ih I I) (Dfa U79 I Z77 I (Dq I (BA (c.key.c) i 0 I G77 Z77 I I Ih hc (by decide) (En.kK _)) (Md 2 I (AX (d_t I (Az I I Z77 I I (Kv.ko _) (Kv.one _) (by first|decide|(show 0+(Kv.c _).length<=(Kv.c _).length; rw[Kv.ko,Kv.ko]; decide)) (Ce (c.key).c (Sep.ku (by first|rfl|(show (Kv.c _).length=_; rw[Kv.ko,Kv.ko]))) (d_t I (e_q I I (AF I I) (AL (Kt (Ag ?_)))))))))))))))))))
   refine Pm [2,1] I ?_
   have hck:c.key=(l.getD (spl l) en0).key:=by rw[hsp,Io hc]
   exact N9 I (id I) (id I) (AK I G77 Z77 (Hat 2 I) (Kv.ko _)) (id I) (λ_ h=>⟨(_,_),by rw[hck],T0,by rw[hsp]; exact h.sublist (oQ.2 (oQ.2 (nF _)))⟩)
def lfN (es:List En):Nd:=⟨true,es,[],[],[]⟩
abbrev lfV (s:Sv) (es:List En):NV:=⟨⟨s,sv0,sv0,sv0⟩,lfN es⟩
def idB (z:Int):Bool:=decide (1<=z)&&decide (z<256)
theorem PQ (x:Int):Con prog 269 [.int .i64 x] Tr [] (λ_:Unit=>.bool (idB x)) Tr (λ_=>[]):=by
 intro w hE hH
 refine E0 func269 I hH (Cs I (Ak I (Cs I (Mv 3 I (CB 5 I (λh1=>?_) (λh1=>?_))))))
 .exact Mv 3 I (Ak I (Ag (Ao I I (λ_ h=>⟨(),congrArg Eb (by unfold idB; rw[od (show 1<=x by omega)]; rfl),T0,h⟩))))
 .exact Mv 3 I (Ak I (Ag (Ao I I (λ_ h=>⟨(),congrArg Eb (by unfold idB; rw[oc (show ¬1<=x by omega)]; rfl),T0,h⟩))))
theorem GF (nv:NV) (hb:∀e∈nv.d.es,e.Bd) (h2l:2<=nv.d.es.length) (hpos:0<lby nv.d.es) (hn:nv.d.es.length<=30000):Con prog 267 [.agg nv.c.toArray] (λw=>NRd w nv) [] (λb:Sv×Sv=>.tuple #[.agg (lfV b.1 (tkS nv)).c.toArray,.agg (lfV b.2 (dpS nv)).c.toArray,.agg (kyS nv).c.toArray,.bool true]) Tr (λb=>[Bv b.1 (tkS nv),Bv b.2 (dpS nv)]):=by
 intro w hE hH
 refine E0 func267 I hH (Cs I (l_e I (AT I I I I (λbn=>Ce nv.c I (l_e I (Au I I I zeroValue135 (λb1=>Ce nv0.c I (l_e I (Au I I I zeroValue135 (λb2=>Ce nv0.c I (l_e I (Au I I I zeroValue77 (λbp=>Ce (kv0 8).c I (Ak I (Cs I (Lq I (AP (nvL.c) I I (λw=>by kernel_rfl)) (Lq I (AP (nvL.c) I I (λw=>by kernel_rfl)) (AX (l_e I (SW AU I (NV.one _) (AX (l_e I (SW AU I (NV.one _) (Ns (Cs I (Lfa Cu I Z49 I (Lo G49 3 I (l_e I (Mn (PO nv.d.es hb h2l hpos hn) I I I call295 I hE.e.kp ?_)))))))))))))))))))))))))))))
 intro ⟨va,vb⟩ _
 refine Mv 5 I (Lfa Cu I Z49 I (Pre.fact (λ_ h=>BW (h.at 0 I)) ?_))
 rintro⟨aa,ca,ha⟩
 dsimp only at ha
 subst ha
 refine Pre.fact (λ_ h=>BW (h.at 1 I)) ?_
 rintro⟨ab,cb,hb⟩
 dsimp only at hb
 subst hb
 refine D3 (l_e I (AG I I Z49 I I I (by show 1<5; decide) (Ce (lfV (⟨aa,(tkS nv).length,ca⟩:Sv) (tkS nv)).c I (Lfa Cu I Z49 I (D3 (l_e I (AG I I Z49 I I I (by show 1<5; decide) (Ce (lfV (⟨ab,(dpS nv).length,cb⟩:Sv) (dpS nv)).c I (C0 (l_e I (Az I I Z77 I I (Kv.ko _) (Kv.one _) (by first|decide|(simp only[Kv.ko]; decide)|(show 0+(Kv.c _).length<=(Kv.c _).length; rw[Kv.ko,Kv.ko]; decide)) (Ce (kyS nv).c (Sep.ku (by first|rfl|(show (Kv.c _).length=_; rw[Kv.ko,Kv.ko]))) (Ak I (Cs I (Mv 2 I (Nk (Sb 19 false I (I) (Aa I (Ae (Ks (Do8 (rg 7) 2052 (λw2=>(Ad b1 135 (lfV (⟨aa,(tkS nv).length,ca⟩:Sv) (tkS nv)).c).at w2/\(Ad b2 135 (lfV (⟨ab,(dpS nv).length,cb⟩:Sv) (dpS nv)).c).at w2/\(Ad bp 77 (kyS nv).c).at w2) I St.drawn (Hc 2 1 0 I) (Dq I (AQ ((lfV (⟨aa,(tkS nv).length,ca⟩:Sv) (tkS nv)).c) I Bx AU I (λ_ h=>h.1) (I) (I)) ?_))))))))))))))))))))))
 refine Dq I (AQ ((lfV (⟨ab,(dpS nv).length,cb⟩:Sv) (dpS nv)).c) I Bx AU I (λ_ h=>h.2.1) (I) (I)) (Dq I (AQ ((kyS nv).c) I G77 Z77 I (λ_ h=>h.2.2) (Bb _) (Kv.ko _)) (AX (d_e I (SW AU I (NV.one _) (Ai (Hc 0 2 1 I) (AX (d_e I (SW AU I (NV.one _) (Ai (Hc 1 0 2 I) (AX (d_t I (Az I I Z77 I I (Kv.ko _) (Kv.one _) (by first|decide|(simp only[Kv.ko]; decide)|(show 0+(Kv.c _).length<=(Kv.c _).length; rw[Kv.ko,Kv.ko]; decide)) (Ce (kyS nv).c (Sep.ku (by first|rfl|(show (Kv.c _).length=_; rw[Kv.ko,Kv.ko]))) (d_t I (e_q I I (AF I I) (AL (Kt (Ag (Pm [4,2,1] I ?_)))))))))))))))))))
 exact C0 (N9 I (AK I Bx AU (Hat 2 I) (I)) (AK I Bx AU (Hat 3 I) (I)) (AK I G77 Z77 (Hat 4 I) (Kv.ko _)) (id I) (λ_ h=>⟨((⟨aa,(tkS nv).length,ca⟩:Sv),(⟨ab,(dpS nv).length,cb⟩:Sv)),rfl,T0,h.sublist (oQ.2 (oQ.2 (nF _)))⟩))
theorem BK (nv:NV) (hlf:nv.d.leaf) (ka kb2:Int) (hne:¬ka=kb2) (hia:idB ka) (hib:idB kb2) (hb:∀e∈nv.d.es,e.Bd) (h2l:2<=nv.d.es.length) (hpos:0<lby nv.d.es) (hn:nv.d.es.length<=30000):Con prog 212 [.agg nv.c.toArray,.int .i64 ka,.int .i64 kb2] (λw=>NRd w nv) [] (λb:Sv×Sv×Sv×Sv=>.tuple #[.agg (⟨⟨sv0,b.2.2.1,b.2.2.2,sv0⟩,⟨false,[],[ka,kb2],[kyS nv],[]⟩⟩:NV).c.toArray,.agg (lfV b.1 (tkS nv)).c.toArray,.agg (lfV b.2.1 (dpS nv)).c.toArray,.bool true]) Tr (λb=>[Bv b.1 (tkS nv),Bv b.2.1 (dpS nv),BY b.2.2.1 [ka,kb2],CF b.2.2.2 [kyS nv]]):=by
 intro w hE hH
 refine E0 func212 I hH ?_
 refine Cs I (l_e I (AT I I I I (λbn=>Ce nv.c I (l_e I (Au I I I zeroValue135 (λbr=>Ce nv0.c I (l_e I (Au I I I zeroValue135 (λb1=>Ce nv0.c I (l_e I (Au I I I zeroValue135 (λb2=>Ce nv0.c I (Ak I (Af (Cs I (Mv 4 I (Sf 14 I hne (Lm I (l_e I (E1 (PQ ka) I call269 Tt (λ_ _=>Lq I (Qt I) (Mv 2 I (Sb 19 false I (by rw[hia]; rfl) (Lm I (l_e I (E1 (PQ kb2) I call269 Tt (λ_ _=>Lq I (Qt I) (Lq I (Qz I) (Nk (Sb 23 false I (by rw[hib]; rfl) (Aa I (Ae (Ks ?_)))))))))))))))))))))))))))))))))
 refine ZP (λ(s1:Sv) (s2:Sv) (bp:Nat)=>[(1,.int .i64 ka),(2,.int .i64 kb2),(3,pV bn),(6,pV br),(7,pV b1),(8,pV b2),(9,.bool true),(10,pV bp)]) (λ(s1:Sv) (s2:Sv) (bp:Nat)=>St w [] [Bv s1 (tkS nv),Bv s2 (dpS nv),Ad bp 77 (kyS nv).c,Ad b2 135 (lfV s2 (dpS nv)).c,Ad b1 135 (lfV s1 (tkS nv)).c,Ad br 135 nv0.c,Ad bn 135 nv.c]) (λ(s1:Sv) (s2:Sv) (bp:Nat)=>True) ?_ ?_
 .refine Fo (λw2=>(Ad bn 135 nv.c).at w2) I St.drawn (Aq 0 I (Hat 3 I) (AQ (nv.c) I Bx AU I Ih (I) (I)) (Aq 3 I (Hat 3 I) (AQ (nv.c) I Bx AU I Ih (I) (I)) (Ay2 1 10 I ?_ ?_)))
  .refine E1 (Fa nv hlf) I call270 Tt (λ_ _=>Ai (Hat 3 I) (Aq 2 I (Hat 3 I) (DM I JK I isAgg358 I I) (Ay2 4 10 I ?_ ?_)))
   .refine CE (GF nv hb h2l hpos hn) I I I I call267 I (λ_ h=>hE.keep h) ?_
    rintro⟨s1,s2⟩ _
    refine Pw (St _ _ (Bv s1 (tkS nv)::Bv s2 (dpS nv)::_)) ?_
    refine Ai (Hat 5 I) (Aq 5 I (Hat 5 I) (Bi I I) (Aq 6 I (Hat 5 I) (Qx I) (Aq 7 I (Hat 5 I) (Qx I) (Aq 8 I (Hat 5 I) (Qx I) (Aq 9 I (Hat 5 I) (Qx I) (Ay 10 I (Au I I I zeroValue77 (λbp=>Ce (kv0 8).c I (Ai (Hat 6 I) (C0 (Ay 11 I (SW AU I (NV.one _) (Ai (Hat 6 I) (C0 (Ay 12 I (SW AU I (NV.one _) (Ai (Hat 6 I) (AX (Ay 13 I (Az I I Z77 I I (Kv.ko _) (Kv.one _) (by first|decide|(simp only[Kv.ko]; decide)|(show 0+(Kv.c _).length<=(Kv.c _).length; rw[Kv.ko,Kv.ko]; decide)) (Ce (kyS nv).c (Sep.ku (by first|rfl|(show (Kv.c _).length=_; rw[Kv.ko,Kv.ko]))) (Ai (Hat 6 I) (Aq 14 I (Hat 6 I) (AF I I) (An (Pm [0,0,0,2,2] I ?_)))))))))))))))))))))))))
    refine Pm [5,5] I ?_
    exact Bc ((s1,s2,bp)) trivial (Si I) (λ_ h=>h)
   .refine Au I I I zeroValue77 (λbp=>Ce (kv0 8).c I (Ai (Hat 4 I) (Ay 4 I (CE (GF nv hb h2l hpos hn) I I I I call267 I (λ_ h=>hE.keep h) ?_))))
    rintro⟨s1,s2⟩ _
    refine Pw (St _ _ (Bv s1 (tkS nv)::Bv s2 (dpS nv)::_)) ?_
    refine Ai (Hat 6 I) (Aq 5 I (Hat 6 I) (Bi I I) (Aq 6 I (Hat 6 I) (Qx I) (Aq 7 I (Hat 6 I) (Qx I) (Aq 8 I (Hat 6 I) (Qx I) (Aq 9 I (Hat 6 I) (Qx I) (C0 (Ay 11 I (SW AU I (NV.one _) (Ai (Hat 6 I) (C0 (Ay 12 I (SW AU I (NV.one _) (Ai (Hat 6 I) (C0 (Ay 13 I (Az I I Z77 I I (Kv.ko _) (Kv.one _) (by first|decide|(simp only[Kv.ko]; decide)|(show 0+(Kv.c _).length<=(Kv.c _).length; rw[Kv.ko,Kv.ko]; decide)) (Ce (kyS nv).c (Sep.ku (by first|rfl|(show (Kv.c _).length=_; rw[Kv.ko,Kv.ko]))) (Ai (Hat 6 I) (Aq 14 I (Hat 6 I) (AF I I) (An (Ed ?_)))))))))))))))))))))
    refine Pm [4,4,1,1,1,1] I ?_
    exact Bc ((s1,s2,bp)) trivial (Si I) (λ_ h=>h)
  .refine Au I I I zeroValue77 (λbp=>Ce (kv0 8).c I (Ai (Hat 4 I) (Ay 1 I (E1 (Fa nv hlf) I call270 Tt (λ_ _=>Ai (Hat 4 I) (Aq 2 I (Hat 4 I) (DM I JK I isAgg358 I I) (Ay 4 I (CE (GF nv hb h2l hpos hn) I I I I call267 I (λ_ h=>hE.keep h) ?_))))))))
   rintro⟨s1,s2⟩ _
   refine Pw (St _ _ (Bv s1 (tkS nv)::Bv s2 (dpS nv)::_)) ?_
   refine Ai (Hat 6 I) (Aq 5 I (Hat 6 I) (Bi I I) (Aq 6 I (Hat 6 I) (Qx I) (Aq 7 I (Hat 6 I) (Qx I) (Aq 8 I (Hat 6 I) (Qx I) (Aq 9 I (Hat 6 I) (Qx I) (C0 (Ay 11 I (SW AU I (NV.one _) (Ai (Hat 6 I) (C0 (Ay 12 I (SW AU I (NV.one _) (Ai (Hat 6 I) (C0 (Ay 13 I (Az I I Z77 I I (Kv.ko _) (Kv.one _) (by first|decide|(simp only[Kv.ko]; decide)|(show 0+(Kv.c _).length<=(Kv.c _).length; rw[Kv.ko,Kv.ko]; decide)) (Ce (kyS nv).c (Sep.ku (by first|rfl|(show (Kv.c _).length=_; rw[Kv.ko,Kv.ko]))) (Ai (Hat 6 I) (Aq 14 I (Hat 6 I) (AF I I) (An (Ed ?_)))))))))))))))))))))
   refine Pm [4,4,1,1,1,1] I ?_
   exact Bc ((s1,s2,bp)) trivial (Si I) (λ_ h=>h)
 .intro s1 s2 bp _
  refine Af (Cs I (Mv 2 I (Nk (Aa I (Ae (Ks (Fo (λw2=>(Ad b1 135 (lfV s1 (tkS nv)).c).at w2/\(Ad b2 135 (lfV s2 (dpS nv)).c).at w2/\(Ad bp 77 (kyS nv).c).at w2) I St.drawn (Aq 0 I (Hc 4 3 2 I) (Bi I I) (Aq 1 I (Hc 4 3 2 I) (Bi I I) (Aq 3 I (Hc 4 3 2 I) (AQ ((kyS nv).c) I G77 Z77 I (λ_ h=>h.2.2) (Bb _) (Kv.ko _)) (Aq 6 I (Hc 4 3 2 I) (AQ ((lfV s1 (tkS nv)).c) I Bx AU I (λ_ h=>h.1) (I) (I)) (Aq 7 I (Hc 4 3 2 I) (AQ ((lfV s2 (dpS nv)).c) I Bx AU I (λ_ h=>h.2.1) (I) (I)) ?_))))))))))))
  refine Ay2 2 4 I ?_ ?_
  .refine Ax (sz:=1) [.tmp 42,.tmp 43] I I I I I U22 Z3 I zeroValue3 I (λbk=>Ai (Hc 5 4 3 I) (Ay 4 I (Ax (sz:=9) [.tmp 45] I I I I I FJ Z77 I zeroValue77 (by simp[Value.cells,Kv.ko]) (λbq=>Ai (Hc 6 5 4 I) (Aq 5 I (Hc 6 5 4 I) (AP ((⟨⟨sv0,⟨some ⟨bk,0,none⟩,2,2⟩,⟨some ⟨bq,0,none⟩,1,1⟩,sv0⟩,⟨false,[],[ka,kb2],[kyS nv],[]⟩⟩:NV).c) I I (λw=>by kernel_rfl)) (My (Ay 8 I (SW AU I (NV.one _) (Ai (Hc 7 6 5 I) (My (Ay 9 I (SW AU I (NV.one _) (Ai (Hc 0 7 6 I) (My (Ay 10 I (SW AU I (NV.one _) (Ai (Hc 1 0 7 I) (Aq 11 I (Hc 1 0 7 I) (AF I I) (An (Kt (Ag (C0 (rowLit (AH .i64) [ka,kb2] I I (C0 ?_))))))))))))))))))))))))
   exact rowLit (Kv.enc 8) [kyS nv] I I (Pm [5,5,1,0,2,1] I (N9 I (AK I Bx AU (Hat 4 I) (I)) (AK I Bx AU (Hat 5 I) (I)) (AK I Bx AU (Hat 6 I) (I)) (id I) (λ_ h=>⟨(s1,s2,⟨some ⟨bk,0,none⟩,2,2⟩,⟨some ⟨bq,0,none⟩,1,1⟩),rfl,T0,h.sublist (oQ.2 (oQ.2 (oQ.2 (oQ.2 (nF _)))))⟩)))
  .refine Ax (sz:=9) [.tmp 45] I I I I I FJ Z77 I zeroValue77 (by simp[Value.cells,Kv.ko]) (λbq=>Ai (Hc 5 4 3 I) (Ay 2 I (Ax (sz:=1) [.tmp 42,.tmp 43] I I I I I U22 Z3 I zeroValue3 I (λbk=>Ai (Hc 6 5 4 I) (Aq 5 I (Hc 6 5 4 I) (AP ((⟨⟨sv0,⟨some ⟨bk,0,none⟩,2,2⟩,⟨some ⟨bq,0,none⟩,1,1⟩,sv0⟩,⟨false,[],[ka,kb2],[kyS nv],[]⟩⟩:NV).c) I I (λw=>by kernel_rfl)) (My (Ay 8 I (SW AU I (NV.one _) (Ai (Hc 7 6 5 I) (My (Ay 9 I (SW AU I (NV.one _) (Ai (Hc 0 7 6 I) (My (Ay 10 I (SW AU I (NV.one _) (Ai (Hc 1 0 7 I) (Aq 11 I (Hc 1 0 7 I) (AF I I) (An (Kt (Ag (D3 (rowLit (AH .i64) [ka,kb2] I I (C0 ?_))))))))))))))))))))))))
   exact rowLit (Kv.enc 8) [kyS nv] I I (Pm [5,5,1,0,2,1] I (N9 I (AK I Bx AU (Hat 4 I) (I)) (AK I Bx AU (Hat 5 I) (I)) (AK I Bx AU (Hat 6 I) (I)) (id I) (λ_ h=>⟨(s1,s2,⟨some ⟨bk,0,none⟩,2,2⟩,⟨some ⟨bq,0,none⟩,1,1⟩),rfl,T0,h.sublist (oQ.2 (oQ.2 (oQ.2 (oQ.2 (nF _)))))⟩)))
theorem fe {f:Vw} (h:f.st≠3):isC t f=false:=by unfold isC; rw[oc h]; rfl
theorem Ti (h:M.find b=none):∀(j:Nat) (z:Vw),M.fr[j]?=some z->z.st=1\/z.st=2->z.blk≠b:=λj z hz hs e=>by
 have:=JV (p:=isB b) (l:=M.fr) h z (mQ hz)
 unfold isB at this
 rcases hs with hs|hs<;>simp[e,hs] at this
theorem Xf (h:bkB b):0<=b/\b<256:=by unfold bkB at h; simpa using h
theorem ff (h:tkB t):0<=t/\t<8:=by unfold tkB at h; simpa using h
theorem aC (h:M.mayW t b):tkB t=true:=by
 unfold Mo.mayW at h; cases hh:tkB t with
 |true=>rfl
 |false=>rw[hh] at h; simp at h
theorem pin_ok (h:M.Ok B) (t b:Int) (hB:B+1<=60000):(M.pin t b).2.Ok (B+1):=by
 have h1:=h.mono (oS B) hB
 cases hc:(bkB b&&M.mayW t b) with
 |false=>rw[Rr hc]; exact h1
 |true =>
  have hbk:bkB b=true:=by rw[mz] at hc; exact hc.1
  have hbr:=Xf hbk
  cases hf:M.find b with
  |none =>
   cases hk:M.takes t with
   |none=>rw[MK hc hf hk]; exact WE h t b ⟨by omega,by omega⟩ hB
   |some k =>
    rw[Pq hc hf hk]
    obtain⟨y,hy,hys,_⟩:=Ie hk
    refine KJ (M:=M.leave t) (leave_ok h1 t) (y:=y) hy (.inr (.inl rfl)) (λe=>by rcases e with e|e<;>cases e) (λ_=>hbr) (λe=>by cases e) (λ_=>rfl) ⟨by show (0:Int)<=1; decide,by show (1:Int)<=_; omega⟩ (λ_ j z _ hz hs=>Ti hf j z hz hs) (λq _ e=>by rw[hys] at e; cases e) (NP 1000)
  |some i =>
   obtain⟨y,hy,hyb,hys,hya⟩:=Et hf
   rw[WN hc hf hya]
   have hm:=mQ hy
   have hp:=h.pins y hm
   have hP:((M.put i {y with pins:=y.pins+1,ref:=true}).leave t).Ok (B+1):=leave_ok (Fu (y':={y with pins:=y.pins+1,ref:=true}) h1 hy rfl rfl rfl ⟨by show 0<=y.pins+1; omega,by show y.pins+1<=((B+1:Nat):Int); omega⟩ (h.es y hm)) t
   split
   .exact hP
   .rename_i h2
    refine⟨hP.n1,hP.n64,hP.st,hP.none',hP.blk,hP.own,hP.own0,hP.pins,hP.uni,?_,hP.lB,hP.ln,hP.lb,λq hq=>?_,hP.es,hP.hw,hP.B9⟩
    .show (M.loads++[(t,b)]).length<=B+1
     rw[lp]; have:=h.ll; simp; omega
    .rcases mT.1 (show q∈M.loads++[(t,b)] from hq) with hq|hq
     .exact hP.lo q hq
     .rw[nq] at hq; subst hq
      refine⟨{y with pins:=y.pins+1,ref:=true},?_,by rcases hys with e|e; exact e; exact absurd e h2,hyb⟩
      exact mQ (show (M.fr.set i _)[i]?=some _ from oU (lR.1 hy).1)
theorem claim_ok (h:M.Ok B) (t:Int) (hB:B+1<=60000):(M.claim t).2.Ok (B+1):=by
 have h1:=h.mono (oS B) hB
 cases hc:M.mayW t (-1) with
 |false=>rw[Pr hc]; exact h1
 |true =>
  have htr:=ff (aC hc)
  cases hk:M.takes t with
  |none=>rw[Jz hc hk]; exact WE h t (-1) ⟨by omega,by omega⟩ hB
  |some k =>
   rw[KN hc hk]
   obtain⟨y,hy,hys,_⟩:=Ie hk
   exact KJ (M:=M.leave t) (leave_ok h1 t) (y:=y) hy (.inr (.inr (.inr rfl))) (λ_=>rfl) (λe=>by rcases e with e|e<;>cases e) (λ_=>htr) (λe=>absurd rfl e) ⟨by show (0:Int)<=1; decide,by show (1:Int)<=_; omega⟩ (λe=>by rcases e with e|e<;>cases e) (λq _ e=>by rw[hys] at e; cases e) (NP 1000)
theorem fill_ok (h:M.Ok B) (b:Int) (nd:Nd) (he:nd.Sm 1000):(M.fill b nd).2.Ok B:=by
 cases hf:M.frI b 1 with
 |none=>rw[MG nd hf]; exact h
 |some i =>
  rw[MH nd hf]
  obtain⟨hf1,hst⟩:=HJ hf
  obtain⟨y,hy,hyb,hys,hya⟩:=Et hf1
  rw[hya] at hst ⊢
  have hm:=mQ hy
  have hF:({M with loads:=M.loads.filter (λq=>!decide (q.2=b))}:Mo).Ok B :=
   ⟨h.n1,h.n64,h.st,h.none',h.blk,h.own,h.own0,h.pins,h.uni,mf (oK _ _) h.ll,h.lB,h.ln,h.lb,λq hq=>h.lo q (oD.1 hq).1,h.es,h.hw,h.B9⟩
  refine KJ (M:={M with loads:=M.loads.filter (λq=>!decide (q.2=b))}) hF (i:=i) (y:=y) (y':={y with st:=2,nd:=nd}) hy (.inr (.inr (.inl rfl))) (λe=>by rcases e with e|e<;>cases e) (λ_=>h.blk y hm hys) (λe=>by cases e) (λ_=>h.own0 y hm (by rw[hst]; decide)) (h.pins y hm) (λ_ j z hj hz hs e=>hj (h.uni j i z y hz hy hs hys e)) (λq hq _ e=>?_) he
  have:=(oD.1 hq).2
  rw[show q.2=b from by rw[<-e]; exact hyb] at this
  simp at this
theorem give_ok (h:M.Ok B) (t:Int):(M.give t).Ok B:=by
 have hm:∀f∈(M.give t).fr,(f∈M.fr/\isC t f=false)\/f=BL:=λf hf=>by
  obtain⟨g,hg,e⟩:=lP.1 (show f∈M.fr.map (λf=>if isC t f=true then BL else f) from hf)
  split at e
  .exact .inr e.symm
  .rename_i hn; subst e; exact .inl ⟨hg,by simpa using hn⟩
 have hg:∀(i:Nat) (f:Vw),(M.give t).fr[i]?=some f->M.fr[i]?=some f\/f=BL:=λi f hf=>by
  rw[show (M.give t).fr=M.fr.map (λf=>if isC t f=true then BL else f) from rfl,lS,mP] at hf
  obtain⟨g,hg,e⟩:=hf
  split at e
  .exact .inr e.symm
  .subst e; exact .inl hg
 have hl:(M.give t).fr.length=M.fr.length:=mB ..
 refine⟨by rw[hl]; exact h.n1,by rw[hl]; exact h.n64,λf hf=>?_,λf hf=>?_,λf hf=>?_,λf hf=>?_,λf hf=>?_,λf hf=>?_,λi j f g hi hj hf hg2 e=>?_,h.ll,h.lB,h.ln,h.lb,λq hq=>?_,λf hf=>?_,h.hw,h.B9⟩
 .rcases hm f hf with⟨hf,_⟩|rfl
  .exact h.st f hf
  .exact .inl I
 .rcases hm f hf with⟨hf,_⟩|rfl
  .exact h.none' f hf
  .exact λ_=>I
 .rcases hm f hf with⟨hf,_⟩|rfl
  .exact h.blk f hf
  .exact λe=>by rcases e with e|e<;>cases e
 .rcases hm f hf with⟨hf,_⟩|rfl
  .exact h.own f hf
  .exact λe=>by cases e
 .rcases hm f hf with⟨hf,_⟩|rfl
  .exact h.own0 f hf
  .exact λ_=>I
 .rcases hm f hf with⟨hf,_⟩|rfl
  .exact h.pins f hf
  .exact⟨by decide,by show (0:Int)<=_; omega⟩
 .rcases hg i f hi with hi|rfl
  .rcases hg j g hj with hj|rfl
   .exact h.uni i j f g hi hj hf hg2 e
   .rcases hg2 with e|e<;>cases e
  .rcases hf with e|e<;>cases e
 .obtain⟨f,hf,h1,h2⟩:=h.lo q hq
  refine⟨f,lP.2 ⟨f,hf,?_⟩,h1,h2⟩
  rw[lz]
  rw[fe (by rw[h1]; decide)]; decide
 .rcases hm f hf with⟨hf,_⟩|rfl
  .exact h.es f hf
  .exact NP 1000
theorem aD (h:M.Ok B) (t b:Int) (nd:Nd) (he:nd.Sm 1000):(M.name t b nd).2.Ok B:=by
 cases hb:(bkB b&&(M.find b).isNone) with
 |false=>rw[KO nd hb]; exact h
 |true =>
  cases hk:B7 (isC t) M.fr with
  |none=>rw[Pt nd hk]; exact h
  |some k =>
   rw[Pu nd hb hk]
   rw[mz,oI] at hb
   obtain⟨y,hy,hc,_⟩:=C4 hk
   have hys:y.st=3:=by unfold isC at hc; simp only[mz,mS] at hc; exact hc.1
   exact KJ h hy (.inr (.inr (.inl rfl))) (λe=>by rcases e with e|e<;>cases e) (λ_=>Xf hb.1) (λe=>by cases e) (λ_=>rfl) ⟨by show (0:Int)<=0; decide,by show (0:Int)<=_; omega⟩ (λ_ j z _ hz hs=>Ti hb.2 j z hz hs) (λq _ e=>by rw[hys] at e; cases e) he
theorem unpin_ok (h:M.Ok B) (b:Int):(M.unpin b).2.Ok B:=by
 cases hf:M.frI b 2 with
 |none=>rw[KK hf]; exact h
 |some i =>
  obtain⟨hf1,hst⟩:=HJ hf
  obtain⟨y,hy,hyb,hys,hya⟩:=Et hf1
  by_cases hp:(M.at' i).pins=0
  .rw[KL hf hp]; exact h
  .rw[KM hf hp]
   rw[hya] at hp ⊢
   have hm:=mQ hy
   have:=h.pins y hm
   exact Fu h hy I I I ⟨by show 0<=y.pins-1; omega,by show y.pins-1<=_; omega⟩ (h.es y hm)
theorem fg (h:M.Ok B) (b:Int) (nd:Nd) (he:nd.Sm 1000):(M.setN b nd).2.Ok B:=by
 cases hf:M.frI b 2 with
 |none=>rw[Pn nd hf]; exact h
 |some i =>
  rw[Po nd hf]
  obtain⟨hf1,hst⟩:=HJ hf
  obtain⟨y,hy,hyb,hys,hya⟩:=Et hf1
  rw[hya]
  exact Fu h hy I I I (h.pins y (mQ hy)) he
theorem fh (h1:1<=n) (h2:n<=64):(mo0 n).Ok 0:=by
 have hm:∀f∈(mo0 n).fr,f=BL:=λf hf=>(mU.1 (show f∈List.replicate n BL from hf)).2
 have hl:(mo0 n).fr.length=n:=oy ..
 refine⟨by omega,by omega,λf hf=>?_,λf hf=>?_,λf hf=>?_,λf hf=>?_,λf hf=>?_,λf hf=>?_,λi j f g hi _ hf _ _=>?_,lJ _,lJ _,nD,(λq hq=>nomatch hq),(λq hq=>nomatch hq),λf hf=>?_,rfl,by decide⟩
 .rw[hm f hf]; exact .inl rfl
 .rw[hm f hf]; exact λ_=>rfl
 .rw[hm f hf]; exact λe=>by rcases e with e|e<;>cases e
 .rw[hm f hf]; exact λe=>by cases e
 .rw[hm f hf]; exact λ_=>rfl
 .rw[hm f hf]; exact⟨by decide,by decide⟩
 .rw[hm f (mQ hi)] at hf; rcases hf with e|e<;>cases e
 .rw[hm f hf]; exact NP 1000
section
variable {P:Program} {n:Nat} {L:Env} {X:World->Prop} {o:Oper} {Q:Exit->Act->World->Prop} {K:Act->World->Prop}
variable {w0:World} {D:List Nat} {H:List Ent} {α:Type} {E:Enc α} {l:List α} {v:Value}
theorem MS {t:TypeId} {i:TypeInfo} {z:Value} {s:Operand} {m:Nat} {a0:α} (ho:o.op=.call ⟨.builtin .append,#[s,x],#[t,tx]⟩) (hd:o.dst=some d) (hnn:d.blt n) (ht:P.underlying t=some (.slice e)) (htx:P.underlying tx=some (.int .i64)) (hi:P.info? e=some i) (hs:i.size=E.sz) (hz:i.zero=some z) (hzc:z.cells.toList=E.f a0)
 (hsv:ev L s=some v) (hxv:ev L x=some (.int .i64 (m:Int))) (hb:(l.length+m)*i.bytes<=140737488355328) (hn:l.length+m<=9223372036854775807)
 (h:∀v',Pre n ((d,v')::L) (St w0 D (AA v' e E (l++List.replicate m a0)::H)) K):EOp P n L (St w0 D (AA v e E l::H)) o Q K:=by
 by_cases hgt:vcap v<l.length+m
 .exact H9 ho hd hnn ht htx hi hs hz hzc hsv hxv (λ_ h=>h.rd 0 I) hgt hb hn (λv'=>(h v').world _ (λw s=>s.sublist (oQ.2 (nE _ _))))
 .exact EOp.val (β:=Value) (λv=>v) Tr (λv'=>St w0 D (AA v' e E (l++List.replicate m a0)::H)) hd hnn (λac w kn hX=>by
   have hrd:RdV w v E l:=BU (hX.at 0 rfl)
   obtain⟨a,c,rfl,hc,_⟩:=hrd
   have hroom:l.length+m<=c:=by have:¬c<l.length+m:=hgt; omega
   have hsz:∀w,(sizeOf e).run P w=.ok E.sz w:=λw=>by simp[sizeOf,typeInfo,hi,hs]
   have hti:∀w,(typeInfo e).run P w=.ok i w:=λw=>by simp[typeInfo,hi]
   have hzv:∀w,(zeroValue e).run P w=.ok z w:=λw=>by simp[zeroValue,typeInfo,hi,hz]
   have hw1:IntKind.i64.wrap (m:Int)=(m:Int):=Ch (by omega)
   have h5:¬((m:Int)*(i.bytes:Int)>281474976710656):=by
    have:m*i.bytes<=(l.length+m)*i.bytes:=lW _ (by omega)
    rw[<-nR]; omega
   have h6:¬((m:Int)<0):=by omega
   have hzc2:z.cells.size=E.sz:=by rw[<-mX,hzc,E.len]
   have hne:0<E.sz:=E.pos
   have hzf:(Builtin.zeroCells z.cells m).toList=E.flat (List.replicate m a0):=by
    refine lY (λk=>?_)
    by_cases hk:k<m*E.sz
    .have hmod:k%E.sz<E.sz:=lM _ E.pos
     have hdiv:k/E.sz<m:=(Nat.div_lt_iff_lt_mul E.pos).2 hk
     have e1:k=k/E.sz*E.sz+k%E.sz:=by rw[lL]; exact (Nat.div_add_mod k E.sz).symm
     have hg:=E.flat_get (List.replicate m a0) (k/E.sz) (k%E.sz) a0 _ (by simp[hdiv]) (kY (by rw[E.len]; exact hmod))
     rw[<-e1] at hg
     rw[hg]
     have h2:z.cells[k%z.cells.size]! = (E.f a0)[k%E.sz]'(by rw[E.len]; exact hmod):=by
      rw[getElem!_pos z.cells (k%z.cells.size) (by rw[hzc2]; exact hmod)]
      have:z.cells.toList[k%z.cells.size]'(by rw[mX,hzc2]; exact hmod)=(E.f a0)[k%E.sz]'(by rw[E.len]; exact hmod):=by simp only[hzc,hzc2]
      simpa using this
     have h3:k<(Builtin.zeroCells z.cells m).size:=by rw[n9,hzc2]; exact hk
     rw[<-h2,ow,ox h3]
     simp[Builtin.zeroCells]
    .rw[k8 (by rw[mX,n9,hzc2]; omega),k8 (by rw[E.kB,oy]; omega)]
   have hm0:∀w,(if m*E.sz=0 then pure #[] else do pure (Builtin.zeroCells (<-zeroValue e).cells m):Sem (Array Value)).run P w=.ok (Builtin.zeroCells z.cells m) w:=λw=>by
    split
    .rename_i h0
     have:m=0:=by rcases lZ.1 h0 with h|h; exact h; omega
     subst this
     have:Builtin.zeroCells z.cells 0=#[]:=by apply n7.1; rw[hzf]; rfl
     rw[this]; rfl
    .simp[hzv]
   have hrun:(Builtin.append_ #[t,tx] o.type #[.slice a l.length c,.int .i64 (m:Int)]).run P w=(Sem.run P (match a with|some a=>storeCells (a.add (l.length*E.sz)) (E.flat (List.replicate m a0))|none=>pure ():Sem Unit) w).andThen (λ_ w'=>.ok (.slice a (l.length+m) c) w'):=by
    by_cases h0:m*E.sz=0
    .have hmz:m=0:=by rcases lZ.1 h0 with h|h; exact h; omega
     subst hmz
     have hw0:IntKind.i64.wrap 0=0:=by decide
     cases a<;>simp[Builtin.append_,AW ht,AW htx,hsz,hti,asInt,asIntOf,hw0,hroom,storeCells,Enc.flat_nil,hc]
    .have hmw:=hm0 w
     cases a<;>simp[Builtin.append_,AW ht,AW htx,hsz,hti,hzv,asInt,asIntOf,hw1,h6,h5,hroom,h0,hzf]
   have hexec:∀r,(Builtin.append_ #[t,tx] o.type #[.slice a l.length c,.int .i64 (m:Int)]).run P w=r->(execOp ac.eval o).run P w=r.andThen (λv w'=>.ok (.value v) w'):=λr hr=>by
    simp[execOp,ho,resolve,invoke,builtin,kn.eval hsv,kn.eval hxv,hr]
   by_cases hm:m=0
   .subst hm
    refine⟨.slice a l.length c,w,?_,T0,by simpa using hX⟩
    rw[hexec _ hrun]
    cases a<;>simp[Enc.flat_nil,storeCells]
   .have hat:Row (.slice a l.length c) e E l ((ownB (.slice a l.length c)).bind (w.heap[·]?)):=hX.at 0 rfl
    rcases hat with⟨a',he,rfl⟩|⟨b,cap,pre,post,he,hcp,ho',hlc,hpost⟩
    .cases he; simp at hroom; exact absurd hroom hm
    .cases he
     have hown:ownB (.slice (some ⟨b,pre.length,none⟩) l.length c)=some b:=by simp[ownB]; omega
     have h1:St w0 D (Ad b e (pre++E.flat l++post)::H) w:=hX.head hown.symm (λ_=>by rw[hown] at ho'; exact ho')
     have hl1:=E.kB l
     have hl2:=E.kB (List.replicate m a0)
     rw[oy] at hl2
     have hmul:(l.length+m)*E.sz<=c*E.sz:=lW _ hroom
     have hsub:(c-l.length)*E.sz=c*E.sz-l.length*E.sz:=n6 ..
     rw[lF] at hmul
     have hfit:pre.length+l.length*E.sz+0+(E.flat (List.replicate m a0)).length<=(pre++E.flat l++post).length:=by
      simp only[lp]; omega
     obtain⟨w',hr,h'⟩:=B6 (P:=P) (off:=pre.length+l.length*E.sz) (E.flat (List.replicate m a0)) _ 0 h1 hfit (λu hu=>E.flat_one _ u hu)
     refine⟨.slice (some ⟨b,pre.length,none⟩) (l.length+m) c,w',?_,T0,?_⟩
     .rw[hexec _ hrun]
      simp only[BJ,hr,l7]
     .rw[splice_eq _ _ _ (by simpa using hfit)] at h'
      have t1:(pre++E.flat l++post).take (pre.length+l.length*E.sz+0)=pre++E.flat l:=by
       rw[nB,<-hl1,<-lp,nQ]
      rw[t1] at h'
      have e2:pre++E.flat l++E.flat (List.replicate m a0)=pre++E.flat (l++List.replicate m a0):=by rw[E.kL,mj]
      rw[e2] at h'
      have:=CW (cap:=c) h' (by omega) (by simpa using hroom) (by
       simp only[lk,lp,nB,oy]
       have hs2:(c-(l.length+m))*E.sz=c*E.sz-(l.length*E.sz+m*E.sz):=by rw[n6,lF]
       omega)
      simpa using this) (λv' _=>h v')
end
def D7:List Int:=[1,0,0,0]++List.replicate 252 0
def DH:List Int:=[1,0,0,0]++le (Gi D7) 4++List.replicate 248 0
theorem EB:D7.length=256:=by unfold D7; rw[lp,oy]; rfl
theorem KX:DH.length=256:=by unfold DH; rw[lp,lp,oy,B1]; rfl
theorem KY:[1,0,0,0]++List.replicate 4 (0:Int)++List.replicate 248 0=D7:=by
 unfold D7; rw[mj,oF]
theorem RC (pre post:List Value):Sep.splice (pre++(AH .u8).flat D7++post) (pre.length+4) ((AH .u8).flat (le (Gi D7) 4))=pre++(AH .u8).flat DH++post:=by
 have h0:D7=[1,0,0,0]++(List.replicate 4 0++List.replicate 248 0):=by rw[<-mj,KY]
 have h1:(AH .u8).flat D7=(AH .u8).flat [1,0,0,0]++((AH .u8).flat (List.replicate 4 0)++(AH .u8).flat (List.replicate 248 0)):=by
  conv=>lhs; rw[h0]
  rw[Enc.kL,Enc.kL]
 have h2:(AH .u8).flat DH=(AH .u8).flat [1,0,0,0]++(AH .u8).flat (le (Gi D7) 4)++(AH .u8).flat (List.replicate 248 0):=by
  unfold DH; rw[Enc.kL,Enc.kL]
 have hA:(pre++(AH .u8).flat [1,0,0,0]).length=pre.length+4:=by rw[lp,Enc.kB]; rfl
 have:=Sep.splice_part ((AH .u8).flat (le (Gi D7) 4)) ((AH .u8).flat (List.replicate 4 0)) (pre++(AH .u8).flat [1,0,0,0]) ((AH .u8).flat (List.replicate 248 0)++post) (by rw[Enc.kB,Enc.kB,oy,B1])
 rw[hA] at this
 rw[h1,h2]
 simp only[mj] at this ⊢
 exact this
theorem U1 (pre post:List Value):Sep.splice (pre++(AH .u8).flat DH++post) (pre.length+4) (List.replicate 4 (.int .u8 0))=pre++(AH .u8).flat D7++post:=by
 have h0:D7=[1,0,0,0]++(List.replicate 4 0++List.replicate 248 0):=by rw[<-mj,KY]
 have h1:(AH .u8).flat D7=(AH .u8).flat [1,0,0,0]++((AH .u8).flat (List.replicate 4 0)++(AH .u8).flat (List.replicate 248 0)):=by
  conv=>lhs; rw[h0]
  rw[Enc.kL,Enc.kL]
 have h2:(AH .u8).flat DH=(AH .u8).flat [1,0,0,0]++((AH .u8).flat (le (Gi D7) 4)++(AH .u8).flat (List.replicate 248 0)):=by
  unfold DH; rw[mj,Enc.kL,Enc.kL]
 have hA:(pre++(AH .u8).flat [1,0,0,0]).length=pre.length+4:=by rw[lp,Enc.kB]; rfl
 have h4:(AH .u8).flat (List.replicate 4 0)=List.replicate 4 (.int .u8 0):=rfl
 have:=Sep.splice_part (List.replicate 4 (.int .u8 0)) ((AH .u8).flat (le (Gi D7) 4)) (pre++(AH .u8).flat [1,0,0,0]) ((AH .u8).flat (List.replicate 248 0)++post) (by rw[Enc.kB,oy,B1]; rfl)
 rw[hA] at this
 rw[h1,h2,h4]
 simp only[mj] at this ⊢
 exact this
theorem Xg:(DH.take 8).drop 4=le (Gi D7) 4:=by
 unfold DH
 have hl:([1,0,0,0]++le (Gi D7) 4).length=8:=by rw[lp,B1]; rfl
 rw[nX (by omega),lI (by omega)]
 exact List.drop_left' I
theorem fj:DH[0]?=some 1:=rfl
theorem fk:DH[1]?=some 0:=rfl
theorem fm:DH[2]?=some 0:=rfl
theorem RD (vb:Value):Con prog 217 [vb,.agg nvL.c.toArray] Tr [] (λ_:Unit=>vb) Tr (λ_=>[]):=by
 intro w hE hH
 refine E0 func217 I hH (Cs I (l_e I (AT I I I I (λbn=>Ce nvL.c I (Ak I (Af (Cs I (Lfa Cu I Z49 I (Lo G49 0 I (Lq I (EL I U49 I) (Lm I (Nk (Aj ?_)))))))))))))
 refine A0 (λ(u:Unit)=>[(0,vb),(3,pV bn),(15,.int .i64 ((0:Nat):Int)),(16,.int .i64 ((0:Nat):Int))]) (λ(u:Unit)=>St w [] [Ad bn 135 nvL.c]) (λ(u:Unit)=>True) (λ(u:Unit)=>0) (()) trivial (Si I) Ih (λu _=>Cs I (Lq I (Ql I) (Ns (Sb 17 false I (I) (Aa I (AO (Ab (Ab (Am (Ks (Cs I (Lfa Cu I Z22 I (Lo G22 0 I (Lq I (EL I U22 I) (Lm I (Nk (Aj ?_)))))))))))))))))
 refine A0 (λ(u:Unit)=>[(0,vb),(3,pV bn),(38,.int .i64 ((0:Nat):Int)),(39,.int .i64 ((0:Nat):Int))]) (λ(u:Unit)=>St w [] [Ad bn 135 nvL.c]) (λ(u:Unit)=>True) (λ(u:Unit)=>0) (()) trivial (Si I) Ih (λu _=>Cs I (Lq I (Ql I) (Ns (Sb 40 false I (I) (Aa I (AO (Ab (Ab (Am (Ks (Cs I (Lfa Cu I NA I (Lo Ra 0 I (Lq I (EL I FJ I) (Lm I (Nk (Aj ?_)))))))))))))))))
 refine A0 (λ(u:Unit)=>[(0,vb),(3,pV bn),(50,.int .i64 ((0:Nat):Int)),(51,.int .i64 ((0:Nat):Int))]) (λ(u:Unit)=>St w [] [Ad bn 135 nvL.c]) (λ(u:Unit)=>True) (λ(u:Unit)=>0) (()) trivial (Si I) Ih (λu _=>Cs I (Lq I (Ql I) (Ns (Sb 52 false I (I) (Aa I (AO (Ab (Ab (Am (Ks (Cs I (Lfa Cu I Hs I (Lo IN 0 I (Lq I (EL I BO I) (Lm I (Nk (Aj ?_)))))))))))))))))
 refine A0 (λ(u:Unit)=>[(0,vb),(3,pV bn),(64,.int .i64 ((0:Nat):Int)),(65,.int .i64 ((0:Nat):Int))]) (λ(u:Unit)=>St w [] [Ad bn 135 nvL.c]) (λ(u:Unit)=>True) (λ(u:Unit)=>0) (()) trivial (Si I) Ih (λu _=>Cs I (Lq I (Ql I) (Ns (Sb 66 false I (I) (Aa I (AO (Ab (Ab (Am (Kt (Cs I (Lm I (Ak I (Ag (Ao I I ?_)))))))))))))))
 exact λ_ h=>⟨(),rfl,T0,h.kv⟩
theorem fo (B:Nat):nvL.d.Sm B:=Kw B
theorem fq (w:World):NRd w nvL:=⟨EI _,EI _,EI _,EI _⟩
theorem Tj:Cv nvL.d=true:=by decide
theorem Hg :Con prog 145 [.agg nvL.c.toArray] Tr [] (λv:Value=>.tuple #[v,.int .i64 0]) Tr (λv=>[AA v 5 (AH .u8) DH]):=by
 intro w hE hH
 refine E0 func145 I hH ?_
 refine Cs I (l_e I (AT I I I I (λbn=>Ce nvL.c I (Las I (Ak I (Af (Cs I (Lq I (Cq (nvL.c) Bx AU 0 I (I) (I)) (l_e I (E1 (HR nvL I (fo _)) I call216 (λ_ _=>fq _) (λ_ _=>Lq I (Qt I) (Nk (Sb 9 false I (by rw[Tj]; rfl) (Aa I (Ae (Ks (Do8 (rg 5) 162 _ I St.drawn Ih (Dfa Cu I Z22 I (Dq I (Al I G22 I (Hat 0 I) I) (Dq I (EL I U22 I) (Das I (d_t I (e_q I I (AF I I) (AL (Ks (Cs I (Lfa Cu I Z4 I (Lo G4 0 I (Nk (Ah I (Do8 (rg 5) 162 _ I St.drawn Ih (Dfa Cu I Z49 I (Dq I (Al I G49 I (Hat 0 I) I) (Dq I (EL I U49 I) ?_))))))))))))))))))))))))))))))))))
 refine Das I (d_t I (e_q I I (AF I I) (AL (Ks (Do8 [0,1,2,3,4,5,6,9,7,8,10,11] 439587 (λw2=>(Ad bn 135 nvL.c).at w2) I St.drawn (Hat 0 I) (Md 2 I (Dq I (Bu (p:=0) I U3 U5 I (BS (by decide))) (Dfa Cu I Hs I (Dq I (Al I IN I Ih I) (Dq I (EL I BO I) (Dq I (Bu (p:=0) I U3 U5 I (BS (by decide))) (Dq I (AQ (nvL.c) I Bx AU I Ih (I) (I)) (d_e I (Ax (sz:=1) [.tmp 18,.tmp 20,.tmp 24,.const (.int .u8 0)] I I I I I U23 Z5 I zeroValue5 I (λbb=>Ai (Hat 1 I) (rowLit (AH .u8) [1,0,0,0] I I (d_e I (MS (E:=AH .u8) (m:=4) (a0:=(0:Int)) I I I U23 U3 Ju I I I I I (by simp only[Ur]; simp) (by simp) (λv1=>Bt (l':=[1,0,0,0]++List.replicate 4 (0:Int)) (I) (Ai (Hat 1 I) (d_e I (E1 (RD v1) I call217 Tt (λ_ _=>Ai (Hat 1 I) (d_t I (e_q I I (AF I I) (AL (Ks ?_)))))))))))))))))))))))))))
 have hl8:([1,0,0,0]++List.replicate 4 (0:Int)).length=8:=rfl
 refine Cr I (Mv 2 I (Lq I (AJ I U23 I (Hrd 0 I)) (Lq I (CM I I I (by simp)) (Sv' 32 (.int .i64 ((248:Nat):Int)) I (by rw[hl8]; rfl) (l_e I (MS (E:=AH .u8) (m:=248) (a0:=(0:Int)) I I I U23 U3 Ju I I I I I (by simp only[Ur]; simp) (by simp) (λv2=>Bt (l':=D7) (KY) (Ak I (Af (Dk (by rw[EB]; decide) (λb0 cap pre post hv hcap hpost=>?_)))))))))))
 subst hv
 rw[EB] at hcap hpost
 rw[EB]
 have hcl:(pre++(AH .u8).flat D7++post).length=pre.length+256+post.length:=by rw[lp,lp,Enc.kB,EB]; rfl
 refine Do8 (rg 5) 189 (λw2=>(Ad b0 5 (pre++(AH .u8).flat D7++post)).at w2) I St.drawn (Hat 0 I) (Dm I (Dq I (Di 4 I U23 Z5 I I I (by omega)) (Dm I (Sv' 35 (.slice (some ⟨b0,pre.length+4,none⟩) 252 (cap-4)) I (by rw[lz (show ¬cap=4 by omega)]) (d_e I (AZ (JC D7 (by rw[EB]; decide)) I I I call218 I (λ_ h=>by have:=EV (h.at 0 I) (AH .u8) D7 pre.length cap pre post I I (by rw[EB]; exact hcap); rwa[EB] at this) (λv3 _=>Ai (Hat 1 I) ?_)))))))
 have hs4:(le (Gi D7) 4).length=4:=B1 _ _
 refine Pre.fact (λ_ h=>BW (h.at 0 I)) ?_
 rintro⟨sa,sc,rfl⟩
 exact AM (d_t I (GU (E:=AH .u8) (sa:=sa) (sl:=(le (Gi D7) 4).length) (sc:=sc) (sc':=sc) (m:=le (Gi D7) 4) 4 I I I U23 Z5 I I (by rw[hs4]; rfl) (λ_ h=>by have:=h.rd 1 rfl; rw[hs4] at this; exact this) (by rw[hcl]; show pre.length+4+4*1<=_; omega) (AR (RC pre post) (AL (Ks (FL (E:=AH .u8) (len:=256) (cap:=cap) DH pre post I KX (by omega) hcap hpost (Cr I (Mv 2 I (Ak I (Ag (Bg (rs:=[.tmp 2,.tmp 3]) I I (λ_ h=>⟨_,rfl,T0,h.sublist (oQ.2 (nF _))⟩))))))))))))
theorem PR (l:List Int) (hn:l.length<=65536):Con prog 228 [va] (λw=>RdV w va (AH .u8) l) [] (λv:Value=>v) Tr (λv=>[AA v 5 (AH .u8) l]):=by
 intro w hl hH
 obtain⟨a,c,rfl⟩:=FI hl
 refine E0 func228 I hH (Cs I (Ak I (Af (Cs I (Lm I (Lq I (FZ I U23 I I) (Nk (Pre.caseB 4 I (λhn=>?_) (λhn=>?_)))))))))
 .rw[oI] at hn
  subst hn
  have hl0:=EP hl
  subst hl0
  exact Ah I (Cs I (Ak I (Ag (Ac (row0 5 (AH .u8) none (Ao I I (λ_ h=>⟨_,rfl,T0,h⟩)))))))
 .refine Aa I (Ae (Kt (Cs I (l_e I (Ax (sz:=1) [] I I I I I U23 Z5 I zeroValue5 I (λb=>rowLit (AH .u8) [] I I (Lm I (l_e I (Ap U23 U23 Ju I hl.kp (by simp only[lp,kQ,ob]; omega) (λv=>Ak I (Ag ?_)))))))))))
  rw[mw]
  exact Ao I I (λ_ h=>⟨v,rfl,T0,h⟩)
theorem JE (l:List Int):Con prog 229 [va,vb] (λw=>RdV w va (AH .u8) l/\RdV w vb (AH .u8) l) [] (λ_:Unit=>.bool true) Tr (λ_=>[]):=by
 intro w hE hH
 obtain⟨ha,hb⟩:=hE
 refine E0 func229 I hH ?_
 exact Cs I (Ak I (Cs I (Lm I (Lq I (E6 I U23 U5 U9 I ha.kp) (Lm I (Lq I (E6 I U23 U5 U9 I hb.kp) (Lq I (iu I I I) (Ak I (Ag (Ao I I (λ_ h=>⟨(),congrArg Eb (by simp),T0,h⟩)))))))))))
theorem ft (vf:Value):Con prog 230 [.int .i64 0,vf] Tr [] (λ_:Unit=>Cb) Tr (λ_=>[]):=by
 intro w hE hH
 refine E0 func230 I hH (Cs I (Ak I (Cs I (Ak I (Af (Cs I (Mv 2 I (Nk (Aj ?_)))))))))
 refine A0 (λ(u:Unit)=>[(5,Cb),(6,.int .i64 0),(7,.int .i64 0)]) (λ(u:Unit)=>St w [] []) (λ(u:Unit)=>True) (λ(u:Unit)=>0) (()) trivial (Si I) Ih (λu _=>Cs I (Lq I (Ql I) (Ns (Sb 8 false I (I) (Aa I (AO (Ab (Ab (Am (Kt (Cs I (Lm I (Ak I (Ag (Ao I I ?_)))))))))))))))
 exact λ_ h=>⟨(),rfl,T0,h⟩
theorem fu (vf:Value):Con prog 236 [.int .i64 0,vf] Tr [] (λ_:Unit=>Cb) Tr (λ_=>[]):=by
 intro w hE hH
 refine E0 func236 I hH (Cs I (Ak I (Cs I (Ak I (Af (Cs I (Mv 2 I (Nk (Aj ?_)))))))))
 refine A0 (λ(u:Unit)=>[(5,Cb),(6,.int .i64 0),(7,.int .i64 0)]) (λ(u:Unit)=>St w [] []) (λ(u:Unit)=>True) (λ(u:Unit)=>0) (()) trivial (Si I) Ih (λu _=>Cs I (Lq I (Ql I) (Ns (Sb 8 false I (I) (Aa I (AO (Ab (Ab (Am (Kt (Cs I (Lm I (Ak I (Ag (Ao I I ?_)))))))))))))))
 exact λ_ h=>⟨(),rfl,T0,h⟩
theorem Mb:Con prog 167 [vb] (λw=>RdV w vb (AH .u8) DH) [] (λ_:Unit=>.tuple #[.agg nvL.c.toArray,.int .i64 0]) Tr (λ_=>[]):=by
 intro w hb hH
 have hl:=KX
 obtain⟨ba,bc,rfl⟩:=FI hb
 refine E0 func167 I hH (Cs I (l_e I (Au I I I zeroValue135 (λbr=>Ce nv0.c I (Ak I (Af (Cs I (Lm I (Lq I (AJ I U23 I hb.kp) (Lq I (Qn I) (Nk (Sb 13 false I (by rw[hl]; rfl) (Aa I (Ae (Kt (Cs I (Lm I (l_e I (AZ (PR DH (by rw[hl]; decide)) I I I call228 I hb.kp (λvx _=>Ak I (Cs I (Lm I (Dk (by rw[hl]; decide) (λb0 cap pre post hv hcap hpost=>?_))))))))))))))))))))))))
 subst hv
 rw[hl] at hcap hpost
 rw[hl]
 have hl0:=EB
 have hcl:(pre++(AH .u8).flat DH++post).length=pre.length+256+post.length:=by rw[lp,lp,Enc.kB,hl]; rfl
 refine Lq I (OR (E:=AH .u8) (l:=DH) 4 8 I U23 Z5 I (λ_ h=>by have:=EV (h.at 0 I) (AH .u8) DH pre.length cap pre post I I (by rw[hl]; exact hcap); rwa[hl] at this) I I I I (by decide) (by rw[hl]; decide)) (Sv' 18 (.slice (some ⟨b0,pre.length+4,none⟩) 4 (cap-4)) I (by simp[vsl,show ¬cap=4 by omega,BJ,AH]) (l_e I (Wl I I U23 Ju I I I I (by rw[hcl]; omega) (AR (U1 pre post) (Ns (Af (Do8 [0,2,3,1,4,5] 675 (λw2=>RdV w2 (.slice ba DH.length bc) (AH .u8) DH) I St.drawn hb.kp (Md 2 I (Dq I (OR 4 8 I U23 Z5 I Ih I I I I (by omega) (by omega)) (d_e I (AZ (JC D7 (by rw[hl0]; decide)) I I I call218 I (λ_ h=>(by have:=EV (h.at 0 I) (AH .u8) D7 pre.length cap pre post I I (by rw[hl0]; exact hcap); rwa[hl0] at this)) (λv3 _=>Ai hb.kp (d_t I (E1 (JE (le (Gi D7) 4)) I call229 (λ_ h=>⟨h.rd 0 rfl,by have:=CH (hb.keep h (by simp)) (lo:=4) (hi:=8) (by decide) (by rw[hl]; decide); rwa[Xg] at this⟩) (λ_ _=>d_t I (e_q I I (Qt I) (AL (Kt (Aa I (Ae (Kt (Cs I (Lm I (Lq I (AP ([.slice ba DH.length bc,.int .i64 8,.bool false]) I I (λw=>by kernel_rfl)) (l_e I (AT I I I I ?_))))))))))))))))))))))))))
 intro bq
 refine Ce [.slice ba DH.length bc,.int .i64 8,.bool false] I (Ak I (Af (Do8 (rg 17) 92470734 (λw2=>RdV w2 (.slice ba DH.length bc) (AH .u8) DH) I St.drawn hb.kp (Dm I (Dq I (Ar 0 I U23 Z5 I Ih I I) (Dq I (AI 0 0 I G5 I I Ih fj I) (Dq I (Qe I) (Dq I (AP (nvL.c) I I (λw=>by kernel_rfl)) (Dm I (Dq I (Ar 1 I U23 Z5 I Ih I I) (Dq I (AI 1 0 I G5 I I Ih fk I) (Dq I (Bu I U5 U3 I (by first|rfl|(simp only[IntKind.wrap]; omega)|exact Ch (by omega))) (Dm I (Dq I (Ar 2 I U23 Z5 I Ih I I) (Dq I (AI 2 0 I G5 I I Ih fm I) (Dq I (Bu I U5 U3 I (by first|rfl|(simp only[IntKind.wrap]; omega)|exact Ch (by omega))) (d_e I (Au I I I zeroValue135 (λbn=>Ce nv0.c I (Ai hb.kp (d_e I (SW AU I (NV.one _) (Ai hb.kp (Das I (d_t I (e_q I I (AF I I) (AL (Ks (Cs I (Lfa Cu I Z4 I (Lo G4 0 I (Nk (Ah I (Cr I (Mv 2 I (Lq I (C3 (fn:=.func 0) (vs:=#[pV bq]) (us:=#[]) 231 I (λa k=>by simp[k.eval (x:=.tmp 45) rfl]) (λa k=>by simp)) (l_e I (E1 (ft _) I call230 Tt ?_))))))))))))))))))))))))))))))))))))))
 intro _ _
 refine Lfa Cu I Z49 I (l_e I (AG I I Z49 I I I (by show 1<5; decide) (Ce nvL.c I (Nk (Cs I (Mv 2 I (Lq I (C3 (fn:=.func 0) (vs:=#[pV bq]) (us:=#[]) 237 I (λa k=>by simp[k.eval (x:=.tmp 61) rfl]) (λa k=>by simp)) (l_e I (E1 (fu _) I call236 Tt (λ_ _=>Lfa Cu I Hs I (l_e I (AG I I Hs I I I (by show 4<5; decide) (Ce nvL.c I (Ns (Cs I (Lq I (Cq (nvL.c) Bx AU 0 I (I) (I)) (l_e I (AZ (Hg) I I I call145 I Tt (λvy _=>Lm I (Mv 3 I (Ak I (Cs I (Mv 2 I (Lfa underlying330 I Z4 I (Lo G4 2 I (Mv 5 I (Sb 78 false I (I) (Mv 2 I (l_e I (E1 (JE DH) I call229 (λ_ h=>⟨h.rd 0 rfl,hb.keep h (by simp)⟩) ?_))))))))))))))))))))))))))))))
 intro _ _
 exact Mv 2 I (Nk (Aa I (Ae (Kt (Cs I (Lq I (Cq (nvL.c) Bx AU 1 I (I) (I)) (EM (l_e I (SW AU I (NV.one _) (Ak I (Ag (BM I (AK I Bx AU (Hat 0 I) (I)) (id I) (λ_ h=>⟨(),rfl,T0,h.kv⟩)))))))))))))
structure Bk where
 l:List Int
 len:l.length=256
def Bk.zero:Bk:=⟨List.replicate 256 0,oy ..⟩
def Bk.c (b:Bk):List Value:=b.l.map (.int .u8)
theorem Bk.one (b:Bk):∀v∈b.c,v.oneCell'=true:=λv hv=>by
 obtain⟨z,_,rfl⟩:=lP.1 hv; rfl
theorem Bk.ko (b:Bk):b.c.length=256:=by unfold Bk.c; rw[mB,b.len]
def Bk.enc:Enc Bk:=⟨256,Bk.c,Bk.ko,Bk.one,by decide⟩
theorem Bk.flat (b:Bk):(AH .u8).flat b.l=b.c:=GV b.l
structure Sto where
 bl:List Bk
 us:List Bool
structure Sto.Ok (s:Sto):Prop where
 len:s.bl.length=s.us.length
 n1:1<=s.us.length
 n256:s.us.length<=256
namespace Sto
def is (s:Sto) (id:Int):Bool:=decide (0<=id)&&decide (id<s.us.length)&&s.us.getD id.toNat false
def fr (s:Sto):Option Nat:=B7 (λu=>!u) s.us
def alloc (s:Sto) (k:Nat):Sto:=⟨s.bl.set k Bk.zero,s.us.set k true⟩
def put (s:Sto) (id:Nat) (b:Bk):Sto:=⟨s.bl.set id b,s.us⟩
def used (s:Sto):List Nat:=(List.range s.us.length).filter (λi=>s.us.getD i false)
def left (s:Sto):Nat:=s.us.length-s.used.length
end Sto
abbrev SE (bs:Nat) (vB vU:Value) (s:Sto):List Ent:=[Ad bs 161 [vB,vU],AA vB 279 Bk.enc s.bl,AA vU 4 FB s.us]
theorem Xh {s:Sto} {k:Nat} (h:s.us[k]?=some u):s.is (k:Int)=u:=by
 have hlt:=(lR.1 h).1
 unfold Sto.is
 rw[od (show (0:Int)<=(k:Int) by omega),od (show (k:Int)<(s.us.length:Int) by omega),mV,om,h]; rfl
theorem dP {s:Sto} {id:Int} (h:¬(0<=id/\id<s.us.length)):s.is id=false:=by
 unfold Sto.is
 by_cases h0:0<=id
 .rw[oc (show ¬id<(s.us.length:Int) from λh1=>h ⟨h0,h1⟩),oP]; rfl
 .rw[oc h0]; rfl
theorem aE {l:List Bool} (h:l[i]?=some u):(List.range (i+1)).filter (λi=>l.getD i false)=(List.range i).filter (λi=>l.getD i false)++(if u then [i] else []):=by
 rw[oL,oM]
 congr 1
 have:l.getD i false=u:=by rw[om,h]; rfl
 simp only[oX,List.filter_nil,this]
section
variable {P:Program} {n:Nat} {L:Env} {X:World->Prop} {o:Oper} {Q:Exit->Act->World->Prop} {K:Act->World->Prop}
variable {w0:World} {D:List Nat} {H:List Ent} {α:Type} {E:Enc α} {l:List α} {v:Value}
theorem Xi {t:TypeId} {i:Operand} {k:IntKind} {p:Int} (j n0:Nat) (ho:o.op=.indexAddr t x i) (ht:P.underlying t=some (.slice e)) (hz:∀w,(sizeOf e).run P w=.ok E.sz w) (hx:ev L x=some v) (hr:∀w,X w->∃l:List α,l.length=n0/\RdV w v E l) (hi:ev L i=some (.int k p)) (hp:p=(j:Int)) (hj:j<n0) :
 QOp P n L X o (.pointer (some ⟨blk v,Fi v+j*E.sz,none⟩)):=λa w kn hX=>by
 obtain⟨l,hl,h⟩:=hr w hX
 exact Ar (X:=λw'=>w'=w) j ho ht hz hx (λw' e=>by subst e; exact h) hi hp (by omega) a w kn rfl
theorem aF {F:Enc β} {w:World} {j c:Nat} {a:α} {ms:List β} (h:RdV w v E l) (ha:l[j]?=some a) (hm:ms.length=m) (hc:m<=c) (hf:F.flat ms=E.f a):RdV w (.slice (some ⟨blk v,Fi v+j*E.sz,none⟩) m c) F ms:=by
 subst hm
 refine⟨_,c,rfl,hc,.inr ⟨blk v,Fi v+j*E.sz,rfl,λk u hk=>?_⟩⟩
 rw[hf] at hk
 exact Nu h ha hk
theorem RF {F:Enc β} {ms:List β} {t ty:TypeId} {y:Operand} {xv:Value} {off dn dc:Nat} (j:Nat) (c:α) {a:α} (ho:o.op=.call ⟨.builtin .copy,#[y,x],#[t,tx]⟩) (hd:o.dst=some d) (hnn:d.blt n) (ht:P.underlying t=some (.slice e)) (hz:∀w,(sizeOf e).run P w=.ok F.sz w)
 (hy:ev L y=some (.slice (some ⟨blk v,off,none⟩) dn dc)) (hoff:off=Fi v+j*E.sz) (hxv:ev L x=some xv) (hx:∀w,St w0 D (AA v ty E l::H) w->RdV w xv F ms) (hm:ms.length=dn) (hc:F.flat ms=E.f c) (ha:l[j]?=some a)
 (h:Pre n ((d,.int .i64 (dn:Nat))::L) (St w0 D (AA v ty E (l.set j c)::H)) K):EOp P n L (St w0 D (AA v ty E l::H)) o Q K :=
 EOp.val (β:=Unit) (λ_=>.int .i64 (dn:Nat)) Tr (λ_=>St w0 D (AA v ty E (l.set j c)::H)) hd hnn (λac w kn hX=>by
  have hj:=(lR.1 ha).1
  have hr:=hx w hX
  obtain⟨b,cap,pre,post,hv,hlc,hp,h1⟩:=Gn hX (by omega)
  subst hv
  have hlen:=E.kB l
  have hmul:(j+1)*E.sz<=l.length*E.sz:=lW _ (by omega)
  rw[lF,lX] at hmul
  have hfl:(F.flat ms).length=ms.length*F.sz:=F.kB ms
  have hcl:(F.flat ms).length=E.sz:=by rw[hc,E.len]
  have hmin:min ms.length dn=ms.length:=by omega
  have hfit:off+min ms.length dn*F.sz<=(pre++E.flat l++post).length:=by
   rw[hmin,<-hfl,hcl]; subst hoff; simp only[Fi,lp,hlen]; omega
  obtain⟨w',hr',h'⟩:=OZ (P:=P) (ty:=o.type) (tx:=tx) (dc:=dc) ht hz h1 hr hfit
  rw[hmin,oG] at h'
  have I8:Sep.splice (pre++E.flat l++post) off (F.flat ms)=pre++E.flat (l.set j c)++post:=by
   subst hoff
   rw[hc]
   simp only[Fi]
   rw[splice_eq _ _ _ (by simp only[lp,hlen,E.len]; omega)]
   have e1:l.set j c=l.take j++[c]++l.drop (j+1):=by
    rw[nV]; simp[hj]
   rw[e1,E.kL,E.kL,<-E.flat_take,<-E.flat_drop,lF,lX,E.kM,E.flat_nil,nS,E.len]
   have t1:(pre++E.flat l++post).take (pre.length+j*E.sz)=pre++(E.flat l).take (j*E.sz):=by
    rw[mj,nL,nX (by rw[hlen]; omega)]
   have t2:(pre++E.flat l++post).drop (pre.length+j*E.sz+E.sz)=(E.flat l).drop (j*E.sz+E.sz)++post:=by
    rw[mj,mq,nM,nY (by rw[hlen]; omega)]
   rw[t1,t2]
   simp only[mj]
  rw[I8] at h'
  refine⟨(),w',?_,T0,?_⟩
  .have:min ms.length dn=dn:=by omega
   rw[this] at hr'
   simp only[blk] at hy
   simp[execOp,ho,resolve,invoke,builtin,kn.eval hy,kn.eval hxv,hr']
  .have:=CW (cap:=cap) h' (by omega) (by simpa using hlc) (by simpa using hp)
   simpa using this) (λ_ _=>h)
end
theorem U2 (pre post:List Value) (b:Bk):Sep.splice (pre++(AH .u8).flat (List.replicate 256 0)++post) pre.length ((AH .u8).flat b.l)=pre++(AH .u8).flat b.l++post :=
 Sep.splice_part _ _ pre post (by rw[Enc.kB,Enc.kB,b.len,oy])
theorem PS {s:Sto} (hs:s.Ok) (bs:Nat) (vB vU:Value) (id:Int):Con prog 219 [pV bs,.int .i64 id] Tr (SE bs vB vU s) (λ_:Unit=>.bool (s.is id)) Tr (λ_=>SE bs vB vU s):=by
 intro w hE hH
 refine Ey func219 I hH (Af ?_)
 have hl1:=hs.len
 have hl2:=hs.n256
 refine Cr I (Ak I (Cs I (Mv 3 I (CB 7 I (λh0=>?_) (λh0=>?_)))))
 .refine Mv 3 I (Lfa NB I Um I (Lo isAgg159 0 I (Lq I (AJ I Gh I (Hrd 2 I)) (Mv 3 I (CB 16 I (λh1=>?_) (λh1=>?_))))))
  .obtain⟨k,rfl⟩:=kT (show 0<=id by omega)
   obtain⟨u,huk⟩:=gE s.us k
   exact Mv 2 I (Lfa NB I Um I (Lo isAgg159 0 I (Lm I (Lq I (Ar k I Gh Z4 I (Hrd 2 I) I I) (Lq I (AI k 0 I G4 I I (Hrd 2 I) huk I) (Lq I (Qy I) (Ak I (Ag (Ao I I (λ_ h=>⟨(),congrArg Eb (Xh huk).symm,T0,h⟩))))))))))
  .exact Mv 8 I (Ak I (Ag (Ao I I (λ_ h=>⟨(),congrArg Eb (dP (by omega)).symm,T0,h⟩))))
 .exact Mv 17 I (Ak I (Ag (Ao I I (λ_ h=>⟨(),congrArg Eb (dP (by omega)).symm,T0,h⟩))))
theorem U4 {s:Sto} (hs:s.Ok) (bs:Nat) (vB vU:Value) {k:Nat} {bk:Bk} (huk:s.us[k]?=some true) (hbk:s.bl[k]?=some bk):Con prog 166 [pV bs,.int .i64 (k:Int)] Tr (SE bs vB vU s) (λv:Value=>.tuple #[v,.int .i64 0]) Tr (λv=>AA v 5 (AH .u8) bk.l::SE bs vB vU s):=by
 intro w hE hH
 refine Ey func166 I hH (Af ?_)
 have hl1:=hs.len
 have hl2:=hs.n256
 have hkl:=(lR.1 hbk).1
 refine Cr I (Las I (Ak I (Af (Cs I (Mv 2 I (l_e I (BN (PS hs bs vB vU k) I I I call219 I Tt (λ_ _=>Lq I (Qt I) (Nk (Sb 10 false I (by rw[Xh huk]; rfl) (Aa I (Ae (Kt (Cs I (l_e I (BR (AH .u8) (0:Int) 256 I I I U23 Ju I I I I I I I (by simp only[Ur]; decide) (by decide) (λvb=>Dk (by rw[oy]; decide) (λb0 cap pre post hv hcap hpost=>?_))))))))))))))))))
 subst hv
 rw[oy] at hcap hpost
 rw[oy]
 refine Ak I (Cs I (Mv 3 I (Lfa NB I sizeOf158 I (Lo isAgg158 1 I (Lm I (Lq I (Ar k I Wh sizeOf279 I (Hrd 2 I) I I) (Lq I (F0 I underlying279 Z5 I) ?_)))))))
 have hcl:(pre++(AH .u8).flat (List.replicate 256 0)++post).length=pre.length+256+post.length:=by rw[lp,lp,Enc.kB,oy]; rfl
 exact l_e I (GU (E:=AH .u8) (sc':=256) (m:=bk.l) 256 I I I U23 Z5 I I I (λ_ h=>aF (h.rd 2 I) hbk bk.len (lJ _) bk.flat) (by rw[hcl]; show pre.length+256*1<=_; omega) (AR (U2 pre post bk) (FL (E:=AH .u8) (len:=256) (cap:=cap) bk.l pre post I bk.len (by omega) hcap hpost (Nk (Cs I (Mv 2 I (Ak I (Ag (Bg (rs:=[.tmp 4,.tmp 5]) I I (λ_ h=>⟨_,rfl,T0,h⟩))))))))))
theorem RG {s:Sto} (hs:s.Ok) (bs:Nat) (vB vU:Value) {vb:Value} {k:Nat} {bk:Bk} (nb:Bk) (huk:s.us[k]?=some true) (hbk:s.bl[k]?=some bk):Con prog 146 [pV bs,.int .i64 (k:Int),vb] Tr (AA vb 5 (AH .u8) nb.l::SE bs vB vU s) (λ_:Unit=>.int .i64 0) Tr (λ_=>AA vb 5 (AH .u8) nb.l::SE bs vB vU (s.put k nb)):=by
 intro w hE hH
 refine Ey func146 I hH (Af ?_)
 have hl1:=hs.len
 have hl2:=hs.n256
 have hkl:=(lR.1 hbk).1
 have hnl:=nb.len
 refine Cr I (Ak I (Af (Aj (Cs I (Mv 2 I (Pm [1,1,1] I (l_e I (BN (PS hs bs vB vU k) I I I call219 I Tt (λ_ _=>Lq I (Qt I) (Ak I (Sb 7 false I (by rw[Xh huk]; rfl) (Aa I (Cs I (Lm I (Lq I (AJ I U23 I (Hrd 3 I)) (Lq I (Qn I) (Ak I (Sb 12 false I (by rw[hnl]; rfl) (Aa I (Ae (Aw (Kt (Cs I (Mv 2 I (Lfa NB I sizeOf158 I (Lo isAgg158 0 I (Lm I (Lq I (Ar k I Wh sizeOf279 I (Hrd 1 I) I I) (Lq I (F0 I underlying279 Z5 I) (Lm I (AM ?_)))))))))))))))))))))))))))))))
 exact l_e I (RF (F:=AH .u8) (ms:=nb.l) k nb I I I U23 Z5 I I I (Hrd 3 I) hnl nb.flat hbk (Nk (Cs I (Ak I (Ag (Pm [3,1] I (Ao I I (λ_ h=>⟨(),rfl,T0,h⟩))))))))
theorem PT {s:Sto} (hs:s.Ok) (bs:Nat) (vB vU:Value):Con prog 103 [pV bs] Tr (SE bs vB vU s) (λ_:Unit=>(match s.fr with|some k=>.tuple #[.int .i64 (k:Int),.int .i64 0]|none=>.tuple #[.int .i64 0,.int .i64 3])) Tr (λ_=>SE bs vB vU (match s.fr with|some k=>s.alloc k|none=>s)):=by
 intro w hE hH
 refine Ey func103 I hH (Af ?_)
 have hl1:=hs.len
 have hl2:=hs.n256
 refine Cr I (Las I (Ak I (Af (Cs I (Mv 2 I (Lfa NB I Um I (Lo isAgg159 0 I (Lq I (AJ I Gh I (Hrd 2 I)) (Lm I (Nk (Aj ?_)))))))))))
 refine A0 (λ(i:Nat)=>[(0,pV bs),(9,vU),(10,.int .i64 (s.us.length:Int)),(11,.int .i64 (i:Int))]) (λ(i:Nat)=>St w (dom (SE bs vB vU s)) (SE bs vB vU s)) (λ(i:Nat)=>i<=s.us.length/\∀z∈s.us.take i,(!z)=false) (λ(i:Nat)=>s.us.length-i) (0) ⟨lK _,by simp⟩ (Si I) Ih (λi hp=>Af ?_)
 obtain⟨hi,hno⟩:=hp
 refine Cr I (Lq I (Ql I) (Ns (CB 12 I (λh1=>?_) (λh1=>?_))))
 .obtain⟨u,hu⟩:=gE s.us i
  obtain⟨bk,hbk⟩:∃u,s.bl[i]?=some u:=⟨_,kY (by omega)⟩
  refine Ah I (Ae (Ks (Aj (Cs I (Lm I (Lq I (Ar i I Gh Z4 I (Hrd 2 I) I I) (Lq I (AI i 0 I G4 I I (Hrd 2 I) hu I) (Las I (Ak I (Cs I (Mv 2 I (Nk (CB 17 I (λhun=>?_) (λhun=>?_))))))))))))))
  .subst hun
   have hfr:s.fr=some i:=C7 hu rfl hno
   refine Ah I (Af (D8 [(0,O),(1,O),(2,O),(3,O),(4,O),(5,O),(6,O),(7,O),(8,O),(9,O),(10,O),(11,O),(12,V),(13,W),(14,W)] [13,14] [(_,O),(_,O),(_,O),(_,O),(_,O),(_,O),(_,O),(_,O),(_,O),(_,O),(_,O),(_,O),(_,V),(_,W),(_,W)] (λw2=>(Ad bs 161 [vB,vU]).at w2/\RdV w2 vB Bk.enc s.bl/\∃us:List Bool,us.length=s.us.length/\RdV w2 vU FB us) rfl rfl rfl rfl St.drawn (λ_ h=>⟨h.at 0 rfl,h.rd 1 rfl,_,by first|rfl|(rw[nU]),h.rd 2 rfl⟩) (Md 2 I (Dfa NB I Um I (Dq I (Al I isAgg159 I (λ_ h=>h.1) I) (Md 3 I (Dfa NB I sizeOf158 I (Dq I (Al I isAgg158 I (λ_ h=>h.1) I) (Dm I (Dq I (AP (Bk.zero.c) I I (λw=>by kernel_rfl)) (Dq I (Xi i s.us.length I Gh Z4 I (λ_ h=>h.2.2) I I (by omega)) (AX (d_e I (Ct i 0 true I I Z4 I I I hu (by decide) I (Ai (λ_ h=>⟨h.at 1 rfl,h.rd 2 rfl,_,by first|rfl|(rw[nU]),h.rd 0 rfl⟩) (d_t I (e_q I I (Ar i I Wh sizeOf279 I (Hrd 2 I) I I) (AX (d_t I (Ex i Bk.zero I I sizeOf279 I I I I (by omega) ?_))))))))))))))))))))
   exact AL (Kt (Cs I (Mv 2 I (Ak I (Ag (As (Ac (Ac (As (Ac (Pm [2] I (Bg (rs:=[.tmp 2,.tmp 3]) I I (λ_ h=>⟨(),by rw[hfr],T0,by rw[hfr]; exact h⟩)))))))))))))
  .subst hun
   refine Aa I (Ae (Aw (Kt (Cr I (Lq I (Qi I) (Lm I (AB ?_)))))))
   exact AE (i+1) (by omega) ⟨by omega,EY hno hu rfl⟩ (Si I) (λ_ h=>h)
 .have hfr:s.fr=none:=by unfold Sto.fr; rw[lI (by omega)] at hno; exact C8 hno
  exact Aa I (AO (Ab (Ab (Am (Kt (Cs I (Las I (Ak I (Ag (Bg (rs:=[.tmp 2,.tmp 3]) I I (λ_ h=>⟨(),by rw[hfr],T0,by rw[hfr]; exact h⟩)))))))))))
def nI (l:List Nat):List Int:=l.map (λk:Nat=>(k:Int))
theorem Xj (l:List Nat):(nI l).length=l.length:=mB ..
theorem U6 {s:Sto} {i:Nat} (h:s.us[i]?=some u):nI ((List.range (i+1)).filter (λi=>s.us.getD i false))=nI ((List.range i).filter (λi=>s.us.getD i false))++(if u then [(i:Int)] else []):=by
 rw[aE h]; unfold nI; rw[mn]; cases u<;>rfl
theorem RH {s:Sto} (hs:s.Ok) (bs:Nat) (vB vU:Value):Con prog 34 [pV bs] Tr (SE bs vB vU s) (λv:Value=>v) Tr (λv=>AA v 3 (AH .i64) (nI s.used)::SE bs vB vU s):=by
 intro w hE hH
 refine Ey func34 I hH (Af ?_)
 have hl1:=hs.len
 have hl2:=hs.n256
 refine Cr I (Ak I (Cs I (Ak I (Af (Cs I (Mv 2 I (Lfa NB I Um I (Lo isAgg159 0 I (Lq I (AJ I Gh I (Hrd 2 I)) (Lm I (Nk (Aj (row0 3 (AH .i64) none ?_)))))))))))))
 refine Cy (λ(i:Nat) (v:Value)=>[(0,pV bs),(3,v),(9,vU),(10,.int .i64 (s.us.length:Int)),(11,.int .i64 (i:Int))]) (λ(i:Nat) (v:Value)=>St w (dom (SE bs vB vU s)) (AA v 3 (AH .i64) (nI ((List.range i).filter (λi=>s.us.getD i false)))::SE bs vB vU s)) (λ(i:Nat) (v:Value)=>i<=s.us.length) (λ(i:Nat) (v:Value)=>s.us.length-i) (0) (.slice none 0 0) (lK _) (Si I) Ih (λi v hi=>Af ?_)
 have hfl:((List.range i).filter (λi=>s.us.getD i false)).length<=i:=by have:=oK (λi=>s.us.getD i false) (List.range i); rwa[oN] at this
 have hnl:=Xj ((List.range i).filter (λi=>s.us.getD i false))
 refine Cr I (Lq I (Ql I) (Ns (CB 12 I (λh1=>?_) (λh1=>?_))))
 .obtain⟨u,hu⟩:=gE s.us i
  have hsn:=U6 hu
  refine Ah I (Ae (Ks (Aj (Cs I (Lm I (Lq I (Ar i I Gh Z4 I (Hrd 3 I) I I) (Lq I (AI i 0 I G4 I I (Hrd 3 I) hu I) (Las I (Ak I (Cs I (Lm I (Nk (Pre.caseB 16 I (λhun=>?_) (λhun=>?_))))))))))))))
  .subst hun
   refine Ah I (Cr I (Mv 2 I (l_e I (Ax (sz:=1) [.tmp 18] I I I I I U22 Z3 I zeroValue3 I (λb1=>AM (l_e I (Ap U22 U22 EA I (λ_ h=>AY (h.at 1 I) (AH .i64) [(i:Int)] I I) (by simp only[lp,kQ,ob]; omega) (λv2=>Bt (hsn.symm) (AM (Av (Las I (AB (Aw (Kt (Cr I (Lq I (Qi I) (Lm I (AB ?_))))))))))))))))))
   exact AE ((i+1,v2)) (by dsimp only; omega) (by dsimp only; omega) (Si I) (λ_ h=>h)
  .subst hun
   refine Aa I (Ae (Aw (Kt (Cr I (Lq I (Qi I) (Lm I (AB ?_)))))))
   exact AE ((i+1,v)) (by dsimp only; omega) (by dsimp only; omega) (Si I) (λ_ h=>by dsimp only; rw[hsn]; simpa using h)
 .have hie:i=s.us.length:=by omega
  subst hie
  exact Aa I (AO (Ab (Ab (Am (Kt (Cs I (Lm I (Ak I (Ag (Ao I I (λ_ h=>⟨v,rfl,T0,h⟩)))))))))))
theorem RI {s:Sto} (hs:s.Ok) (bs:Nat) (vB vU:Value):Con prog 35 [pV bs] Tr (SE bs vB vU s) (λ_:Unit=>.int .i64 (s.left:Int)) Tr (λ_=>SE bs vB vU s):=by
 intro w hE hH
 refine Ey func35 I hH (Af ?_)
 have hl1:=hs.len
 have hl2:=hs.n256
 refine Cr I (Ak I (Af ?_))
 have hul:s.used.length<=s.us.length:=by have:=oK (λi=>s.us.getD i false) (List.range s.us.length); rwa[oN] at this
 have hnl:=Xj s.used
 refine Do8 (rg 10) 40095 (λw2=>(Ad bs 161 [vB,vU]).at w2/\RdV w2 vU FB s.us) I St.drawn (Hb 0 2 I) (Md 2 I (Dfa NB I Um I (Dq I (Al I isAgg159 I (λ_ h=>h.1) I) (Dq I (AJ I Gh I (λ_ h=>h.2)) (Dm I (d_e I (Mp (RH hs bs vB vU) I I I call34 I Tt (λvu _=>Pre.fact (λ_ h=>BW (h.at 0 I)) ?_))))))))
 rintro⟨la,lc,rfl⟩
 exact Ai (Hb 1 3 I) (Dq I (EL I U22 I) (Dq I (CM I I I) (d_t I (e_q I I (AF I I) (AL (Kt (Ag (Av (Ao I I (λ_ h=>⟨(),congrArg Ei (by unfold Sto.left; rw[hnl]; omega),T0,h⟩))))))))))
theorem Xk {n:Nat} (h1:1<=n) (h8:n<=256):Con prog 100 [.int .i64 (n:Int)] Tr [] (λr:Nat×Value×Value=>.tuple #[.pointer (some ⟨r.1,0,none⟩),.int .i64 0]) Tr (λr=>SE r.1 r.2.1 r.2.2 ⟨List.replicate n Bk.zero,List.replicate n false⟩):=by
 intro w hE hH
 refine E0 func100 I hH (Cs I (Las I (Ak I (Af (Cs I (Mv 3 I (Sf 6 I (by omega) (Lm I (Lq I (BQ I I I) (Lq I (Qz I) (Nk (Sf 9 I (by omega) (Aa I (Ae (Ks (Fo Tr I St.drawn (Aq 0 I Tt (Bi I I) (Aq 2 I Tt (Bi I I) (Ay2 1 3 I ?_ ?_)))))))))))))))))))
 .refine BR Bk.enc Bk.zero n I I I Wh SP I I I I I I I (by simp only[Wj]; omega) (by omega) (λvB=>Pre.fact (λ_ h=>BW (h.at 0 I)) ?_)
  rintro⟨aB,cB,rfl⟩
  refine Ai Tt (Ay 3 I (BR FB false n I I I Gh SN I I I I I I I (by simp only[eI]; omega) (by omega) (λvU=>Pre.fact (λ_ h=>BW (h.at 0 I)) ?_)))
  rintro⟨aU,cU,rfl⟩
  exact Ai Tt (Aq 4 I Tt (AP ([.slice aB (List.replicate n Bk.zero).length cB,.slice aU (List.replicate n false).length cU]) I I (λw=>by kernel_rfl)) (Ay 5 I (AT I I I I (λbs=>Ce [.slice aB (List.replicate n Bk.zero).length cB,.slice aU (List.replicate n false).length cU] I (Ai Tt (Aq 6 I Tt (AF I I) (Aq 7 I Tt (AF I I) (An (Kt (Ag (Pm [0,1] I (Bg (rs:=[.tmp 2,.tmp 3]) I I (λ_ h=>⟨(bs,_,_),rfl,T0,h⟩)))))))))))))
 .refine BR FB false n I I I Gh SN I I I I I I I (by simp only[eI]; omega) (by omega) (λvU=>Pre.fact (λ_ h=>BW (h.at 0 I)) ?_)
  rintro⟨aU,cU,rfl⟩
  refine Ai Tt (Ay 1 I (BR Bk.enc Bk.zero n I I I Wh SP I I I I I I I (by simp only[Wj]; omega) (by omega) (λvB=>Pre.fact (λ_ h=>BW (h.at 0 I)) ?_)))
  rintro⟨aB,cB,rfl⟩
  exact Ai Tt (Aq 4 I Tt (AP ([.slice aB (List.replicate n Bk.zero).length cB,.slice aU (List.replicate n false).length cU]) I I (λw=>by kernel_rfl)) (Ay 5 I (AT I I I I (λbs=>Ce [.slice aB (List.replicate n Bk.zero).length cB,.slice aU (List.replicate n false).length cU] I (Ai Tt (Aq 6 I Tt (AF I I) (Aq 7 I Tt (AF I I) (An (Kt (Ag (Bg (rs:=[.tmp 2,.tmp 3]) I I (λ_ h=>⟨(bs,_,_),rfl,T0,h⟩))))))))))))
end Go.Proofs.YtloldofjddbjoaaGreat
namespace Go.Proofs.YtloldofjddbjoaaGreat.Lt
open Go.Sep Go.RowKit Tryz
variable {n k a b:Nat} {t x z:Int} {l:List Int} {va v:Value} {w:Bool} {α:Type} {w0:World} {D:List Nat} {T U:TypeId} {cs us:List Value} {L:Env} {F:Act->World->Prop}
abbrev Wt:=Int×Bool
structure La where
 pins:Int
 rd:List Int
 wr:Int
 q:List Wt
def ins (t:Int) (l:List Int):List Int:=l.takeWhile (λx=>decide (x<t))++t::l.dropWhile (λx=>decide (x<t))
def mayB (m:La) (t:Int):Bool:=decide (0<=t/\m.wr≠t/\t∉m.rd/\t∉m.q.map Prod.fst)
def openB (m:La) (w:Bool):Bool:=decide (m.wr = -1)&&(!w||decide (m.rd.length=0))
def giveL (m:La) (t:Int) (w:Bool):La:=if w then {m with wr:=t} else {m with rd:=ins t m.rd}
def Fc:List Wt->La->List Int×La
 |[],m=>([],{m with q:=[]})
 |w::q,m=>if openB m w.2 then (w.1::(Fc q (giveL m w.1 w.2)).1,(Fc q (giveL m w.1 w.2)).2) else ([],{m with q:=w::q})
def letL (m:La):List Int×La:=Fc m.q m
def tryB (m:La) (t:Int) (w:Bool):Bool:=mayB m t&&decide (m.q.length=0)&&openB m w
def Oa (m:La) (t:Int) (w:Bool):La:=if tryB m t w then giveL m t w else m
def HU (m:La) (t:Int) (w:Bool):La:={m with q:=m.q++[(t,w)]}
def takeL (m:La) (t:Int) (w:Bool):La:=if mayB m t then (if tryB m t w then giveL m t w else HU m t w) else m
def leaveL (m:La) (t:Int):La:={m with wr:=if m.wr=t then -1 else m.wr,rd:=m.rd.filter (λx=>decide (x≠t)),q:=m.q.filter (λx=>decide (x.1≠t))}
def dropL (m:La) (t:Int):List Int×La:=if t<0 then ([],m) else letL (leaveL m t)
def idleB (m:La):Bool:=openB m true&&decide (m.q.length=0)&&decide (m.pins=0)
def newL:La:=⟨0,[],-1,[]⟩
def tasks (m:La):List Int:=(if 0<=m.wr then [m.wr] else [])++(m.rd++m.q.map Prod.fst)
structure La.Ok0 (m:La):Prop where
 nd:(tasks m).Nodup
 nn:∀x∈tasks m,0<=x
 srt:m.rd.Pairwise (·<·)
 wr : -1<=m.wr
 ex:0<=m.wr->m.rd=[]
structure La.Ok (m:La) (n:Nat):Prop extends La.Ok0 m where
 len:(tasks m).length<=n
 pn:0<=m.pins/\m.pins<=n
theorem La.Ok.mono {m:La} (h:m.Ok n) (hk:n<=k):m.Ok k:=⟨h.toOk0,mf h.len hk,h.pn.1,by have:=h.pn.2; omega⟩
theorem La.Ok.lens {m:La} (h:m.Ok n):m.rd.length<=n/\m.q.length<=n:=by
 have:=h.len
 simp only[tasks,lp,mB] at this
 omega
theorem La.Ok0.rn {m:La} (h:m.Ok0):m.rd.Nodup:=h.srt.imp (λh=>Int.ne_of_lt h)
theorem La.Ok0.qn {m:La} (h:m.Ok0):(m.q.map Prod.fst).Nodup:=by
 have:=h.nd
 simp only[tasks,nJ] at this
 exact this.2.1.2.1
theorem La.Ok0.may {m:La} (h:m.Ok0) (t:Int) (ht:0<=t):mayB m t=decide (t∉tasks m):=by
 have:=h.wr
 unfold mayB tasks
 rw[oE]
 simp only[mT,not_or]
 by_cases hw:0<=m.wr
 .rw[lu hw]; simp only[nq]; exact⟨λx=>⟨λe=>x.2.1 e.symm,x.2.2⟩,λx=>⟨ht,λe=>x.1 e.symm,x.2⟩⟩
 .rw[lz hw]; exact⟨λx=>⟨nt,x.2.2⟩,λx=>⟨ht,by omega,x.2⟩⟩
theorem new_ok:newL.Ok 0:=⟨⟨by decide,by decide,List.Pairwise.nil,by decide,λ_=>rfl⟩,by decide,by decide⟩
theorem PU (t:Int) (l:List Int):(ins t l).Perm (t::l):=by
 unfold ins
 refine oa.trans ?_
 rw[List.takeWhile_append_dropWhile]
theorem ins_mem:x∈ins t l↔x=t\/x∈l:=by rw[(PU t l).mem_iff,kN]
theorem aG:∀{i:Nat},i<=l.length->(∀k,k<i->l.getD k 0<t)->(∀(h:i<l.length),t<=l.getD i 0)->l.takeWhile (λx=>decide (x<t))=l.take i/\l.dropWhile (λx=>decide (x<t))=l.drop i:=by
 induction l with
 |nil=>intro i hi _ _; simp
 |cons x l ih =>
  intro i hi h1 h2
  cases i with
  |zero =>
   have:=h2 (by simp)
   have hx:¬x<t:=by simp at this; omega
   simp[hx]
  |succ i =>
   have h0:=h1 0 (by omega)
   simp at h0
   have:=ih (i:=i) (by simpa using hi) (λk hk=>by have:=h1 (k+1) (by omega); simpa using this) (λh=>by have:=h2 (by simpa using h); simpa using this)
   simp[h0,this.1,this.2]
theorem fv {i:Nat} (hi:i<=l.length) (h1:∀k,k<i->l.getD k 0<t) (h2:∀(h:i<l.length),t<=l.getD i 0):ins t l=l.take i++t::l.drop i:=by
 obtain⟨a,b⟩:=aG hi h1 h2
 rw[ins,a,b]
theorem Xl {x:Int}:ins t (x::l)=if x<t then x::ins t l else t::x::l:=by
 unfold ins
 by_cases h:x<t<;>simp[h]
theorem KZ:∀{l:List Int},l.Pairwise (·<·)->t∉l->(ins t l).Pairwise (·<·)
 |[],_,_=>by simp[ins]
 |x::l,h,hn=>by
  rw[Xl]
  have hx:=pc.1 h
  simp only[kN,not_or] at hn
  split
  .rename_i hlt
   refine pc.2 ⟨λy hy=>?_,KZ hx.2 hn.2⟩
   rcases ins_mem.1 hy with rfl|hy
   .exact hlt
   .exact hx.1 y hy
  .rename_i hlt
   have h3:t<x:=by omega
   refine pc.2 ⟨λy hy=>?_,h⟩
   rcases kN.1 hy with rfl|hy
   .exact h3
   .exact Int.lt_trans h3 (hx.1 y hy)
theorem openB_iff {m:La}:openB m w=true↔m.wr = -1/\(w=true->m.rd=[]):=by
 unfold openB
 cases w<;>simp[List.length_eq_zero_iff]
theorem F7 {m:La} {t:Int} (ht:0<=t) (ho:openB m w):(tasks (giveL m t w)).Perm (t::tasks m):=by
 obtain⟨hw,hr⟩:=openB_iff.1 ho
 unfold giveL
 cases w with
 |true=>simp[tasks,hw,hr rfl,ht]
 |false =>
  simp only[tasks,hw,ny,nz]
  simpa using (PU t m.rd).append_right _
theorem PV {m:La} (h:m.Ok0) (ht:0<=t) (hn:t∉tasks m) (ho:openB m w):(giveL m t w).Ok0:=by
 have hp:=F7 ht ho
 obtain⟨hw,hr⟩:=openB_iff.1 ho
 refine⟨hp.nodup_iff.2 (nH.2 ⟨hn,h.nd⟩),λx hx=>?_,?_,?_,?_⟩
 .rcases kN.1 (hp.mem_iff.1 hx) with rfl|hx
  .exact ht
  .exact h.nn x hx
 .unfold giveL
  cases w with
  |true=>exact h.srt
  |false=>exact KZ h.srt (λhx=>hn (by simp[tasks,hx]))
 .unfold giveL; cases w<;>simp<;>omega
 .unfold giveL; cases w with
  |true=>exact λ_=>hr rfl
  |false=>intro hc; simp at hc; omega
theorem I5 (m:La) (t:Int) (w:Bool):(giveL m t w).pins=m.pins:=by unfold giveL; split<;>rfl
theorem Xm (m:La) (t:Int) (w:Bool):(giveL m t w).q=m.q:=by unfold giveL; split<;>rfl
theorem give_ok {m:La} (h:m.Ok n) (ht:0<=t) (hn:t∉tasks m) (ho:openB m w):(giveL m t w).Ok (n+1) :=
 ⟨PV h.toOk0 ht hn ho,by rw[(F7 ht ho).length_eq]; simpa using h.len,by rw[I5]; have:=h.pn; omega⟩
theorem PW (m:La) (t:Int) (w:Bool):(tasks (HU m t w)).Perm (t::tasks m):=by
 have:tasks (HU m t w)=tasks m++[t]:=by simp[tasks,HU,mj]; rfl
 rw[this]
 exact List.perm_append_singleton t (tasks m)
theorem Xn {m:La} (h:m.Ok n) (ht:0<=t) (hn:t∉tasks m):(HU m t w).Ok (n+1):=by
 have hp:=PW m t w
 refine⟨⟨hp.nodup_iff.2 (nH.2 ⟨hn,h.nd⟩),λx hx=>?_,h.srt,h.wr,h.ex⟩,by rw[hp.length_eq]; simpa using h.len,h.pn.1,by have:=h.pn.2; show m.pins<=_; omega⟩
 rcases kN.1 (hp.mem_iff.1 hx) with rfl|hx
 .exact ht
 .exact h.nn x hx
theorem take_ok {m:La} (h:m.Ok n) (t:Int) (w:Bool):(takeL m t w).Ok (n+1):=by
 unfold takeL
 split
 .rename_i hm
  have ht:0<=t:=by unfold mayB at hm; simp at hm; exact hm.1
  have hn:t∉tasks m:=by rw[h.may t ht] at hm; simpa using hm
  split
  .rename_i ho
   unfold tryB at ho
   simp only[mz] at ho
   exact give_ok h ht hn ho.2
  .exact Xn h ht hn
 .exact h.mono (by omega)
theorem fw (q:List Wt):∀(m:La) (x:List Wt),Fc q {m with q:=x}=Fc q m:=by
 induction q with
 |nil=>intro m x; rfl
 |cons w q ih =>
  intro m x
  have e:giveL {m with q:=x} w.1 w.2={giveL m w.1 w.2 with q:=x}:=by unfold giveL; split<;>rfl
  have o:openB {m with q:=x} w.2=openB m w.2:=rfl
  simp only[Fc,o,e,ih]
theorem RJ (m:La) (w:Wt) (q:List Wt):(tasks {m with q:=w::q}).Perm (w.1::tasks {m with q:=q}):=by
 simp only[tasks,ma]
 rw[<-mj,<-mj]
 exact oa
theorem Xo {m:La} {w:Wt} {q:List Wt} (h:La.Ok0 {m with q:=w::q}) (ho:openB m w.2):La.Ok0 {giveL m w.1 w.2 with q:=q}/\(tasks {giveL m w.1 w.2 with q:=q}).Perm (tasks {m with q:=w::q}):=by
 have hp:=RJ m w q
 have hnd:=nH.1 (hp.nodup_iff.1 h.nd)
 have ht:0<=w.1:=h.nn _ (hp.mem_iff.2 (ns ..))
 have h0:La.Ok0 {m with q:=q}:=⟨hnd.2,λx hx=>h.nn x (hp.mem_iff.2 (nG _ hx)),h.srt,h.wr,h.ex⟩
 have e:giveL {m with q:=q} w.1 w.2={giveL m w.1 w.2 with q:=q}:=by unfold giveL; split<;>rfl
 have ho':openB {m with q:=q} w.2=true:=ho
 have h1:=PV h0 ht hnd.1 ho'
 have h2:=F7 ht ho'
 rw[e] at h1 h2
 exact⟨h1,h2.trans hp.symm⟩
theorem U7 (q:List Wt):∀m:La,(Fc q m).2.pins=m.pins:=by
 induction q with
 |nil=>intro m; rfl
 |cons w q ih=>intro m; simp only[Fc]; split<;>simp[ih,I5]
theorem Tl (q:List Wt):∀m:La,La.Ok0 {m with q:=q}->(Fc q m).2.Ok0/\(tasks (Fc q m).2).Perm (tasks {m with q:=q}):=by
 induction q with
 |nil=>intro m h; exact⟨h,.refl _⟩
 |cons w q ih =>
  intro m h
  simp only[Fc]
  split
  .rename_i ho
   obtain⟨h1,h2⟩:=Xo h ho
   obtain⟨h3,h4⟩:=ih (giveL m w.1 w.2) h1
   exact⟨h3,h4.trans h2⟩
  .exact⟨h,.refl _⟩
def Stable (m:La):Prop:=∀w q,m.q=w::q->openB m w.2=false
theorem PX (q:List Wt):∀m:La,Stable (Fc q m).2:=by
 induction q with
 |nil=>intro m w q h; cases h
 |cons w q ih =>
  intro m
  simp only[Fc]
  split
  .exact ih _
  .rename_i ho
   intro w' q' h
   cases h
   have:openB m w.2=false:=by simpa using ho
   exact this
theorem fy {m:La} (h:m.Ok n):(letL m).2.Ok n:=by
 obtain⟨h1,h2⟩:=Tl m.q m h.toOk0
 exact⟨h1,by unfold letL; rw[h2.length_eq]; exact h.len,by unfold letL; rw[U7]; exact h.pn⟩
theorem JF {m:La} (h:m.Ok0) {t:Int} (ht:0<=t):tasks (leaveL m t)=(tasks m).filter (λx=>decide (x≠t)):=by
 have:=h.wr
 have hm:∀q:List Wt,(q.filter (λx=>decide (x.1≠t))).map Prod.fst=(q.map Prod.fst).filter (λx=>decide (x≠t)):=λq=>by
  rw[List.filter_map]; rfl
 have e1:(if 0<=(leaveL m t).wr then [(leaveL m t).wr] else [])=(if 0<=m.wr then [m.wr] else []).filter (λx=>decide (x≠t)):=by
  by_cases hw:m.wr=t
  .have:(leaveL m t).wr = -1:=by simp[leaveL,hw]
   rw[this]; subst hw; simp[ht]
  .have:(leaveL m t).wr=m.wr:=by simp[leaveL,hw]
   rw[this]
   by_cases h0:0<=m.wr
   .simp[h0,hw]
   .simp[h0]
 show (if 0<=(leaveL m t).wr then [(leaveL m t).wr] else [])++_=_
 rw[e1]
 simp only[tasks,leaveL,oM,hm]
theorem leave_ok {m:La} (h:m.Ok n) {t:Int} (ht:0<=t):(leaveL m t).Ok n:=by
 have hp:=JF h.toOk0 ht
 have hs:(tasks (leaveL m t)).Sublist (tasks m):=hp▸List.filter_sublist
 refine⟨⟨h.nd.sublist hs,λx hx=>h.nn x (hs.subset hx),h.srt.sublist List.filter_sublist,?_,?_⟩,mf hs.length_le h.len,h.pn⟩
 .have:=h.wr; show -1<=(if m.wr=t then -1 else m.wr); split<;>omega
 .intro hw
  have hw':0<=m.wr:=by
   have:0<=(if m.wr=t then -1 else m.wr):=hw
   split at this<;>omega
  show m.rd.filter _=[]
  rw[h.ex hw']; rfl
theorem drop_ok {m:La} (h:m.Ok n) (t:Int):(dropL m t).2.Ok n:=by
 unfold dropL
 split
 .exact h
 .exact fy (leave_ok h (by omega))
theorem PY {m:La} (h:m.q=[]\/∃w q,m.q=w::q/\openB m w.2=false):letL m=([],m):=by
 obtain⟨p,r,x,q⟩:=m
 rcases h with h|⟨w,q',h,ho⟩
 .have h':q=[]:=h
  subst h'; rfl
 .have h':q=w::q':=h
  subst h'
  simp only[letL,Fc,ho]
  rfl
theorem MT (m:La) (t:Int) (w:Bool) (q:List Wt):giveL {m with q:=q} t w={giveL m t w with q:=q}:=by unfold giveL; split<;>rfl
theorem fz {m:La} {w:Wt} {q:List Wt} (h:m.q=w::q) (ho:openB m w.2):letL m=(w.1::(letL (giveL {m with q:=q} w.1 w.2)).1,(letL (giveL {m with q:=q} w.1 w.2)).2):=by
 rw[MT]
 have e:=fw q (giveL m w.1 w.2) q
 simp only[letL,h,Fc,ho,mA]
 rw[e]
theorem iL {m:La} {w:Wt} {q:List Wt} (h:m.Ok n) (hq:m.q=w::q) (ho:openB m w.2):(giveL {m with q:=q} w.1 w.2).Ok n:=by
 have e:{m with q:=w::q}=m:=by rw[<-hq]
 have h0:La.Ok0 {m with q:=w::q}:=by rw[e]; exact h.toOk0
 obtain⟨h1,h2⟩:=Xo h0 ho
 rw[MT]
 refine⟨h1,by rw[h2.length_eq,e]; exact h.len,?_⟩
 show 0<=(giveL m w.1 w.2).pins/\(giveL m w.1 w.2).pins<=n
 rw[I5]; exact h.pn
theorem I6 {f:α->Int}:∀{l:List α} {k:Nat} {y:α},(l.map f).Nodup->l[k]?=some y->f y=t->l.filter (λx=>decide (f x≠t))=l.eraseIdx k
 |[],k,y,hn,hk,hy=>by simp at hk
 |x::l,0,y,hn,hk,hy=>by
  simp at hk; subst hk
  have hx:=(nH.1 hn).1
  rw[List.filter_cons_of_neg (by simp[hy])]
  simp only[List.eraseIdx_zero,List.tail_cons]
  exact List.filter_eq_self.2 (λz hz=>by simp; rintro rfl; exact hx (hy▸pd hz))
 |x::l,k+1,y,hn,hk,hy=>by
  have hk':l[k]?=some y:=by simpa using hk
  have hx:=nH.1 hn
  have hne:f x≠t:=λe=>hx.1 (by rw[e,<-hy]; exact pd (mQ hk'))
  rw[List.filter_cons_of_pos (by simpa using hne),oz,I6 hx.2 hk' hy]
theorem MU {f:α->Int} {l:List α} (h:t∉l.map f):l.filter (λx=>decide (f x≠t))=l :=
 List.filter_eq_self.2 (λz hz=>by simp; rintro rfl; exact h (pd hz))
def encW:Enc Wt:=⟨2,λw=>[.int .i64 w.1,.bool w.2],λ_=>rfl,λa u h=>by simp at h; rcases h with rfl|rfl<;>rfl,by decide⟩
theorem take_not {y:Int} (h:x∉l.take k) (hy:l[k]?=some y) (hn:¬x=y):x∉l.take (k+1):=by
 rw[nT,hy]; simp; exact⟨h,hn⟩
theorem U8 {l:List Wt} {y:Wt} (h:x∉(l.take k).map Prod.fst) (hy:l[k]?=some y) (hn:¬y.1=x):x∉(l.take (k+1)).map Prod.fst:=by
 rw[nT,hy,mn,mT,not_or]; exact⟨h,by simp; exact λe=>hn e.symm⟩
def At (l:List Int) (x z:Int):Prop:=(z = -1/\x∉l)\/∃k:Nat,z=(k:Int)/\l[k]?=some x
def AtW (l:List Wt) (x z:Int):Prop:=(z = -1/\x∉l.map Prod.fst)\/∃(k:Nat) (y:Wt),z=(k:Int)/\l[k]?=some y/\y.1=x
theorem At.iff (h:At l x z):decide (0<=z)=decide (x∈l):=by
 rcases h with⟨rfl,h⟩|⟨k,rfl,h⟩
 .simp[h]
 .have:=mQ h; simp[this]
theorem AtW.iff {l:List Wt} (h:AtW l x z):decide (z<0)=decide (x∉l.map Prod.fst):=by
 rcases h with⟨rfl,h⟩|⟨k,y,rfl,h,e⟩
 .simp[h]
 .have:=pd (f:=Prod.fst) (mQ h)
  rw[e] at this
  rw[oE]
  exact⟨λhh=>by omega,λhh=>absurd this hh⟩
theorem Va (x:Int):Con prog 303 [.int .i64 x] Tr [] (λ_:Unit=>.bool false) Tr (λ_=>[]):=by
 intro w hE hH
 refine E0 func303 I hH ?_
 exact Cs I (Ak I (Cs I (Mv 3 I (Ak I (Ag (Ao I I (λ_ h=>⟨(),congrArg Eb (by simp),T0,h⟩)))))))
theorem Vb (x:Int):Con prog 311 [.int .i64 x] Tr [] (λ_:Unit=>.bool false) Tr (λ_=>[]):=by
 intro w hE hH
 refine E0 func311 I hH ?_
 exact Cs I (Ak I (Cs I (Mv 3 I (Ak I (Ag (Ao I I (λ_ h=>⟨(),congrArg Eb (by simp),T0,h⟩)))))))
theorem Vc (x y:Int):Con prog 302 [.int .i64 x,.int .i64 y] Tr [] (λ_:Unit=>.bool (decide (x<y))) Tr (λ_=>[]):=by
 intro w hE hH
 refine E0 func302 I hH ?_
 exact Cs I (Ak I (Cs I (Lm I (l_e I (E1 (Vb x) I call311 Tt (λ_ _=>Lm I (Mv 9 I (Ak I (Ag (Ao I I (λ_ h=>⟨(),rfl,T0,h⟩)))))))))))
theorem index_spec (l:List Int) (x:Int) (hn:l.length<=65536):Con prog 157 [va,.int .i64 x] (λw=>RdV w va (AH .i64) l) [] (λz:Int=>.int .i64 z) (λz=>At l x z) (λ_=>[]):=by
 intro w hl hH
 refine E0 func157 I hH (Cs I (Ak I (Af (Cs I (Lm I (Lq I (AJ I U22 I hl.kp) (Lm I (Nk (Aj ?_)))))))))
 refine A0 (λ(k:Nat)=>[(0,va),(1,.int .i64 x),(7,.int .i64 (l.length:Int)),(8,.int .i64 (k:Int))]) (λ(k:Nat)=>St w [] []) (λ(k:Nat)=>k<=l.length/\x∉l.take k) (λ(k:Nat)=>l.length-k) (0) ⟨lK _,by simp⟩ (Si I) Ih (λk hp=>Af ?_)
 obtain⟨hk,hx⟩:=hp
 refine Cr I (Lq I (Ql I) (Ns (CB 9 I (λhlt=>?_) (λhlt=>?_))))
 .obtain⟨y,hy⟩:=gE l k
  refine Ah I (Ae (Ks (Aj (Cs I (Lm I (Ak I (Cs I (Mv 3 I (Lq I (Ar k I U22 Z3 I hl.kp I I) (Lq I (AI k 0 I G3 I I hl.kp hy I) (Lq I (Qe I) (Nk (CB 16 I (λhe=>?_) (λhe=>?_))))))))))))))
  .exact Ah I (Cs I (Lm I (Ak I (Ag (As (Ac (Ac (As (Ac (Ao I I (λ_ h=>⟨(k:Int),rfl,.inr ⟨k,rfl,by rw[hy,he]⟩,h⟩)))))))))))
  .refine Aa I (Ae (Aw (Kt (Cr I (Lq I (Qi I) (Lm I (AB ?_)))))))
   exact AE (k+1) (by omega) ⟨by omega,take_not hx hy he⟩ (Si I) (λ_ h=>h)
 .exact Aa I (AO (Ab (Ab (Am (Kt (Cs I (Ak I (Ag (Ao I I (λ_ h=>⟨-1,rfl,.inl ⟨rfl,by rw[lI (by omega)] at hx; exact hx⟩,h⟩))))))))))
theorem contains_spec (l:List Int) (x:Int) (hn:l.length<=65536):Con prog 105 [va,.int .i64 x] (λw=>RdV w va (AH .i64) l) [] (λ_:Unit=>.bool (decide (x∈l))) Tr (λ_=>[]):=by
 intro w hl hH
 refine E0 func105 I hH ?_
 exact Cs I (Ak I (Cs I (Mv 2 I (l_e I (E1 (index_spec l x hn) I call157 hl.kp (λz hz=>Lq I (Qg I) (Ak I (Ag (Ao I I (λ_ h=>⟨(),congrArg Eb hz.iff,T0,h⟩))))))))))
theorem isof_spec (y:Wt) (b:Nat) (t:Int):Con prog 285 [.agg (encW.f y).toArray,pV b] Tr [Ad b 3 [.int .i64 t]] (λ_:Unit=>.bool (decide (y.1=t))) Tr (λ_=>[Ad b 3 [.int .i64 t]]):=by
 intro w hE hH
 refine enter (n:=8) (vs:=[.agg (encW.f y).toArray,pV b]) (St w [b] [Ad b 3 [.int .i64 t]]) func285 I I I (St.init hH) ?_
 exact Cs I (l_e I (AT I I I I (λb1=>Ak I (Cs I (Lfa Un I Z3 I (Lo G3 0 I (Lo G3 1 I (Lq I (Qe I) (Ak I (Ag (Ao I I (λ_ h=>⟨(),rfl,T0,h.drop⟩))))))))))))
theorem indexf_spec (l:List Wt) (b:Nat) (hb:blk va≠b\/l=[]) (t:Int) (hn:l.length<=65536):Con prog 188 [va,.func (.func 285) #[] #[pV b]] (λw=>RdV w va encW l) [Ad b 3 [.int .i64 t]] (λz:Int=>.int .i64 z) (λz=>AtW l t z) (λ_=>[Ad b 3 [.int .i64 t]]):=by
 intro w hl hH
 refine enter (n:=19) (vs:=[va,.func (.func 285) #[] #[pV b]]) (St w [b] [Ad b 3 [.int .i64 t]]) func188 I I I (St.init hH) ?_
 refine Cs I (Ak I (Af (Cs I (Lm I (Lq I (AJ I Eh I (λ_ h=>hl.keepE h (by simpa [dom,Ad] using hb))) (Lm I (Nk (Aj ?_))))))))
 refine A0 (λ(k:Nat)=>[(0,va),(1,.func (.func 285) #[] #[pV b]),(7,.int .i64 (l.length:Int)),(8,.int .i64 (k:Int))]) (λ(k:Nat)=>St w [b] [Ad b 3 [.int .i64 t]]) (λ(k:Nat)=>k<=l.length/\t∉(l.take k).map Prod.fst) (λ(k:Nat)=>l.length-k) (0) ⟨lK _,by simp⟩ (Si I) Ih (λk hp=>Af ?_)
 obtain⟨hk,hx⟩:=hp
 refine Cr I (Lq I (Ql I) (Ns (CB 9 I (λhlt=>?_) (λhlt=>?_))))
 .obtain⟨y,hy⟩:=gE l k
  refine Ah I (Ae (Ks (Aj (Cs I (Lm I (Ak I (Cs I (Mv 3 I (Lq I (Ar k I Eh G6 I (λ_ h=>hl.keepE h (by simpa [dom,Ad] using hb)) I I) (Lq I (AV k I isAgg241 G6 I I (λ_ h=>hl.keepE h (by simpa [dom,Ad] using hb)) hy) (l_e I (F1 (β:=Unit) (X':=λ_=>St w _ [Ad b 3 [.int .i64 t]]) (v:=λ_=>.bool (decide (y.1=t))) (p:=λ_=>True) I I I I call285 I (λw2 h=>Con.frame (F:=[]) (isof_spec y b t) h trivial) (λ_ _=>Nk (CB 16 I (λhe=>?_) (λhe=>?_)))))))))))))))
  .exact Ah I (Cs I (Lm I (Ak I (Ag (As (Ac (Ac (As (Ac (Ao I I (λ_ h=>⟨(k:Int),rfl,.inr ⟨k,y,rfl,hy,he⟩,h⟩)))))))))))
  .refine Aa I (Ae (Aw (Kt (Cr I (Lq I (Qi I) (Lm I (AB ?_)))))))
   exact AE (k+1) (by omega) ⟨by omega,U8 hx hy he⟩ (Si I) (λ_ h=>h)
 .exact Aa I (AO (Ab (Ab (Am (Kt (Cs I (Ak I (Ag (Ao I I (λ_ h=>⟨-1,rfl,.inl ⟨rfl,by rw[lI (by omega)] at hx; exact hx⟩,h⟩))))))))))
theorem gdI (h:k<l.length):l[k]?=some (l.getD k 0):=by simp[om,h]
theorem Tm (hs:l.Pairwise (·<·)) {i j:Nat} (hj:j<l.length) (hij:i<=j):l.getD i 0<=l.getD j 0:=by
 rcases k6 i j with h|h
 .have:=o5.1 hs i j (by omega) hj h
  simp only[om,kY hj,kY (show i<l.length by omega),lV]
  omega
 .rw[show i=j by omega]; exact Int.le_refl _
theorem Ob (l:List Int) (x:Int) (hs:l.Pairwise (·<·)) (hn:l.length<=65536):Con prog 286 [va,.int .i64 x] (λw=>RdV w va (AH .i64) l) [] (λz:Nat×Bool=>.tuple #[.int .i64 (z.1:Int),.bool z.2]) (λz=>z.1<=l.length/\(∀k,k<z.1->l.getD k 0<x)/\∀h:z.1<l.length,x<=l.getD z.1 0) (λ_=>[]):=by
 intro w hl hH
 refine E0 func286 I hH (Cs I (Las I (Ak I (Cs I (Lm I (Lq I (AJ I U22 I hl.kp) (Ak I (Cs I (Mv 2 I (Ak I (Af (Aj ?_))))))))))))
 refine Cy (λ(i:Nat) (j:Nat)=>[(0,va),(1,.int .i64 x),(6,.int .i64 (l.length:Int)),(7,.int .i64 (i:Int)),(8,.int .i64 (j:Int))]) (λ(i:Nat) (j:Nat)=>St w [] []) (λ(i:Nat) (j:Nat)=>i<=j/\j<=l.length/\(∀k,k<i->l.getD k 0<x)/\∀k,j<=k->k<l.length->x<=l.getD k 0) (λ(i:Nat) (j:Nat)=>j-i) (0) (l.length) ⟨lK _,lJ _,λk hk=>absurd hk (ov _),λk h1 h2=>by omega⟩ (Si I) Ih (λi j hp=>Af (Af ?_))
 obtain⟨hij,hj,hlo,hhi⟩:=hp
 refine Cr I (Mv 3 I (Nk (CB 15 I (λhlt=>?_) (λhlt=>?_))))
 .obtain⟨hm,hmd⟩:∃hm:Nat,hm=(i+j)/2:=⟨_,rfl⟩
  have hf:((i:Int)+(j:Int)).fdiv 2=(hm:Int):=by rw[pb _ (by omega)]; omega
  refine Ah I (Ae (Kt (Aj (Cs I (Mv 2 I (Lq I (Bh I I I) (Lq I (Bu I U3 Wg I (E4)) (Lq I (eO hm I I I hf) (Lq I (Bu I Wg U3 I (by first|rfl|(simp only[IntKind.wrap]; omega)|exact Ch (by omega))) (Ak I (Cs I (Mv 2 I (Lq I (Ar hm I U22 Z3 I hl.kp I I) (Lq I (AI hm 0 I G3 I I hl.kp (gdI (by omega)) I) (Lm I (l_e I (E1 (Vc (l.getD hm 0) x) I call302 Tt (λ_ _=>Nk (CB 27 I (λhc=>?_) (λhc=>?_))))))))))))))))))))
  .refine Ah I (Cr I (Lm I (Lq I (Qi I) (Las I (AB (Aw ?_))))))
   exact AE ((hm+1,j)) (by dsimp only; omega) ⟨by dsimp only; omega,hj,λk hk=>Int.lt_of_le_of_lt (Tm hs (by omega) (show k<=hm by omega)) hc,hhi⟩ (Si I) (λ_ h=>h)
  .refine Aa I (Cr I (Mv 2 I (AB (Aw ?_))))
   exact AE ((i,hm)) (by dsimp only; omega) ⟨by dsimp only; omega,by dsimp only; omega,hlo,λk h1 h2=>oR (Int.not_lt.1 hc) (Tm hs h2 h1)⟩ (Si I) (λ_ h=>h)
 .have hie:i=j:=by omega
  subst hie
  refine Aa I (AO (Ab (Ab (Am (Kt (Cs I (Mv 5 I (CB 35 I (λhil=>?_) (λhil=>?_)))))))))
  .refine Mv 2 I (Lq I (Ar i I U22 Z3 I hl.kp I I) (Lq I (AI i 0 I G3 I I hl.kp (gdI (by omega)) I) (Mv 3 I (CB 42 I (λheq=>?_) (λheq=>?_)))))
   .exact Mv 12 I (Ak I (Ag (Bg (rs:=[.tmp 4,.tmp 5]) I I (λ_ h=>⟨(i,true),rfl,⟨hj,hlo,λhh=>hhi i (lJ _) hh⟩,h⟩))))
   .exact Mv 2 I (Lq I (Ar i I U22 Z3 I hl.kp I I) (Lq I (AI i 0 I G3 I I hl.kp (gdI (by omega)) I) (l_e I (E1 (Va _) I call303 Tt (λ_ _=>Lm I (Mv 6 I (Ak I (Ag (Bg (rs:=[.tmp 4,.tmp 5]) I I (λ_ h=>⟨(i,false),rfl,⟨hj,hlo,λhh=>hhi i (lJ _) hh⟩,h⟩))))))))))
  .exact Mv 19 I (Ak I (Ag (Bg (rs:=[.tmp 4,.tmp 5]) I I (λ_ h=>⟨(i,false),rfl,⟨hj,hlo,λhh=>hhi i (lJ _) hh⟩,h⟩))))
theorem clone_spec (l:List Int) (hn:l.length<=65536):Con prog 107 [va] (λw=>RdV w va (AH .i64) l) [] (λv:Value=>v) Tr (λv=>[AA v 3 (AH .i64) l]):=by
 intro w hl hH
 obtain⟨a,c,rfl⟩:=FI hl
 refine E0 func107 I hH (Cs I (Ak I (Af (Cs I (Lm I (Lq I (FZ I U22 I I) (Nk (Pre.caseB 4 I (λhn=>?_) (λhn=>?_)))))))))
 .rw[oI] at hn
  subst hn
  have hl0:=EP hl
  subst hl0
  exact Ah I (Cs I (Ak I (Ag (Ac (row0 3 (AH .i64) none (Ao I I (λ_ h=>⟨_,rfl,T0,h⟩)))))))
 .refine Aa I (Ae (Kt (Cs I (l_e I (Ax (sz:=1) [] I I I I I U22 Z3 I zeroValue3 I (λb=>rowLit (AH .i64) [] I I (Lm I (l_e I (Ap U22 U22 EA I hl.kp (by simp only[lp,kQ,ob]; omega) (λv=>Ak I (Ag ?_)))))))))))
  rw[mw]
  exact Ao I I (λ_ h=>⟨v,rfl,T0,h⟩)
theorem PZ (l:List Wt) (hn:l.length<=65536):Con prog 189 [va] (λw=>RdV w va encW l) [] (λv:Value=>v) Tr (λv=>[AA v 241 encW l]):=by
 intro w hl hH
 obtain⟨a,c,rfl⟩:=FI hl
 refine E0 func189 I hH (Cs I (Ak I (Af (Cs I (Lm I (Lq I (FZ I Eh I I) (Nk (Pre.caseB 4 I (λhn=>?_) (λhn=>?_)))))))))
 .rw[oI] at hn
  subst hn
  have hl0:=EP hl
  subst hl0
  exact Ah I (Cs I (Ak I (Ag (Ac (row0 241 encW none (Ao I I (λ_ h=>⟨_,rfl,T0,h⟩)))))))
 .refine Aa I (Ae (Kt (Cs I (l_e I (Ax (sz:=2) [] I I I I I Eh G6 I zeroValue241 I (λb=>rowLit encW [] I I (Lm I (l_e I (Ap Eh Eh NH I hl.kp (by simp only[lp,kQ,ob]; omega) (λv=>Ak I (Ag ?_)))))))))))
  rw[mw]
  exact Ao I I (λ_ h=>⟨v,rfl,T0,h⟩)
theorem aH:Extern.find Tryz.f304=some (Extern.SlicesOverlaps.overlaps #[22,22] #[4]):=by kernel_rfl
theorem aI:Extern.findNext Tryz.f304=none:=by kernel_rfl
theorem aJ:Tryz.f304.body.isNone=true:=by kernel_rfl
theorem aK:(Tryz.f304.name == "runtime.NumGoroutine")=false:=by kernel_rfl
theorem iM {w:World} {H:List Ent} {h:St w0 D (Ad a T cs::Ad b U us::H) w}:a≠b:=by
 have:=h.hp.nodup
 intro e
 subst e
 simp[Sep.dom,Ad] at this
theorem fA {a b:Ent} (k:Pre n L (St w0 D [a]) F):Pre n L (St w0 D [a,b]) F:=k.world _ (λ_ s=>s.sublist (by simp))
theorem fC {a b c:Ent} (k:Pre n L (St w0 D [a]) F):Pre n L (St w0 D [a,b,c]) F:=k.world _ (λ_ s=>s.sublist (by simp))
theorem P0 (l:List Int) (i:Nat) (t:Int) (bt:Nat) (hi:i<=l.length) (hn:l.length<=65536):Con prog 287 [v,.int .i64 (i:Int),.slice (some ⟨bt,0,none⟩) 1 1] Tr [AA v 3 (AH .i64) l,Ad bt 3 [.int .i64 t]] (λv:Value=>v) Tr (λv=>[AA v 3 (AH .i64) (l.take i++t::l.drop i)]):=by
 intro w hE hH
 have hlen2:(l.take i++t::l.drop i).length=l.length+1:=by simp; omega
 refine Ey func287 I hH (Cs I (Ak I (Cs I (Mv 2 I (Lq I (Ef i I U22 Z3 I (Hrd 0 I) I I (by omega)) (Nk (Cs I (Lm I (Lq I (EL I U22 I) (Ak I (Af (Cs I (Mv 2 I (Nk (Sb 16 false I (I) (Aa I (Ae (Kt (Cs I (Lm I (Lq I (AJ I U22 I (Hrd 0 I)) (Ak I (Af (Cs I (Mv 3 I (Nk (CB 22 I (λhn=>?_) (λhn=>?_))))))))))))))))))))))))))))
 .have hi2:i=l.length:=by omega
  exact Ah I (Cs I (Mv 2 I (l_e I (Ap U22 U22 EA I (λ_ h=>AY (h.at 1 I) (AH .i64) [t] I I) (by simp only[lp,kQ,ob]; omega) (λv2=>Ak I (Ag (Ac (Bt (l':=l.take i++t::l.drop i) (by subst hi2; simp) (AM (Av (Ao I I (λ_ h=>⟨v2,rfl,T0,h⟩))))))))))))
 .have hin:i<l.length:=by omega
  refine Dk (by omega) (λb0 cap pre post hv hcap hpost=>?_)
  subst hv
  refine Aa I (Ae (Ks (Cs I (Mv 2 I (Lq I (Bh I I I) (Lm I (Lq I (iv I U22 I) (Lq I (BQ I I I) (Nk (CB 31 I (λhroom=>?_) (λhroom=>?_)))))))))))
  .have hp0:post.length=cap-l.length:=by rw[hpost]; exact oq _
   have hl0:=(AH .i64).kB l
   have hsz:(AH .i64).sz=1:=rfl
   rw[hsz,oq] at hl0
   have hRD:∀(w2 w3:World) (D:List Nat) (H:List Ent),St w3 D H w2->(Ad b0 3 (pre++(AH .i64).flat l++post))∈H->RdV w2 (.slice (some ⟨b0,pre.length,none⟩) l.length cap) (AH .i64) l:=λw2 w3 D H h hm=>EV (h.hp.holds _ hm) _ l pre.length cap pre post rfl rfl hcap
   refine Ah I (Cs I (Mv 2 I (Lq I (FG i I U22 Z3 I I I (by omega)) (Mv 2 I (Lq I (Bh I I I) (Lm I (Lq I (CM I I I) (Sv' 39 (.int .i64 ((l.length+1-i:Nat):Int)) I (by congr 1; omega) (l_e I (H9 (E:=AH .i64) (l:=l.take i) (m:=l.length+1-i) (a0:=(0:Int)) I I I U22 U3 EA I I I I I ?_ ?_ ?_ ?_ ?_))))))))))
   .intro w2 h
    have h1:=CH (hRD _ _ _ _ h (ns ..)) (lo:=0) (hi:=i) (lK _) (by omega)
    have hsl:vsl (.slice (some ⟨b0,pre.length,none⟩) l.length cap) (AH .i64).sz 0 i=.slice (some ⟨b0,pre.length,none⟩) i cap:=by simp[vsl,BJ]
    rw[hsl] at h1
    simpa using h1
   .show cap<(l.take i).length+(l.length+1-i)
    rw[k9]; omega
   .rw[k9]; simp only[eH]; omega
   .rw[k9]; omega
   intro v2
   refine Ak I (Cs I (Mv 2 I ?_))
   have hl2:(l.take i++List.replicate (l.length+1-i) (0:Int)).length=l.length+1:=by simp; omega
   refine Dk (by omega) (λb2 cap2 pre2 post2 hv2 hcap2 hpost2=>?_)
   subst hv2
   rw[hl2] at hcap2 hpost2
   rw[hl2]
   have hp2:post2.length=cap2-(l.length+1):=by rw[hpost2]; exact oq _
   have hA:(pre2++(AH .i64).flat (l.take i)).length=pre2.length+i:=by rw[lp,Enc.kB,k9,hsz]; omega
   have hcl:(pre2++(AH .i64).flat (l.take i++List.replicate (l.length+1-i) (0:Int))++post2).length=pre2.length+(l.length+1)+post2.length:=by rw[lp,lp,Enc.kB,hl2,hsz]; omega
   refine Lq I (Di i I U22 Z3 I I I (by omega)) (Lm I (Sv' 43 (.slice (some ⟨b2,pre2.length+i,none⟩) (l.length+1-i) (cap2-i)) I (by rw[lz (show ¬cap2=i by omega),oq]) (l_e I (GU (E:=AH .i64) (sc':=1) (m:=[t]) 1 I I I U22 Z3 I I (by omega) (λ_ h=>AY (h.at 2 I) (AH .i64) [t] I I) (by rw[hcl,hsz]; omega) (Ns (Do8 (rg 9) 13122 _ I St.drawn Ih (Md 3 I (Dq I (Qi I) (Dq I (Di (i+1) I U22 Z3 I I I (by omega)) (Md 2 I (Dq I (Di i I U22 Z3 I I I (by omega)) (Sv' 50 (.slice (some ⟨b2,pre2.length+(i+1),none⟩) (l.length+1-(i+1)) (cap2-(i+1))) I (by rw[lz (show ¬cap2=i+1 by omega),oq]) (Sv' 53 (.slice (some ⟨b0,pre.length+i,none⟩) (l.length-i) (cap-i)) I (by rw[lz (show ¬cap=i by omega),oq]) (d_t I ?_))))))))))))))
   refine GU (E:=AH .i64) (sc':=cap-i) (m:=l.drop i) (l.length-i) I I I U22 Z3 I I (by omega) (λw2 h=>?_) (by rw[Hr,hcl,hsz]; omega) ?_
   .have h1:=CH (hRD _ _ _ _ h (nG _ (ns ..))) (lo:=i) (hi:=l.length) (by omega) (lJ _)
    have hsl:vsl (.slice (some ⟨b0,pre.length,none⟩) l.length cap) (AH .i64).sz i l.length=.slice (some ⟨b0,pre.length+i,none⟩) (l.length-i) (cap-i):=by simp[vsl,BJ,show ¬cap=i by omega,hsz]
    rw[hsl] at h1
    simpa using h1
   refine AL (Kt (Cs I (Lm I (Ak I (Ag (Ac (FL (E:=AH .i64) (len:=l.length+1) (cap:=cap2) (l.take i++t::l.drop i) pre2 post2 ?_ hlen2 (by omega) (by omega) hpost2 ?_)))))))
   .rw[Enc.kL,<-mj,<-hA]
    have hd:=O2 (pre2++(AH .i64).flat (l.take i)) ((AH .i64).flat (List.replicate (l.length+1-i) 0)) post2 ((AH .i64).flat (l.drop i)) (.int .i64 t) (by rw[Enc.kB,Enc.kB,oy,lk,hsz]; omega)
    rw[hA,mq] at hd
    rw[hA]
    refine hd.trans ?_
    rw[Enc.kL,Enc.kM,mj pre2]; rfl
   exact fC (Ao I I (λ_ h=>⟨_,rfl,T0,h⟩))
  .have hp0:post.length=cap-l.length:=by rw[hpost]; exact oq _
   have hl0:=(AH .i64).kB l
   have hsz:(AH .i64).sz=1:=rfl
   rw[hsz,oq] at hl0
   have hcl:(pre++(AH .i64).flat l++post).length=pre.length+l.length+post.length:=by rw[lp,lp,hl0]
   have hA:(pre++(AH .i64).flat (l.take i)).length=pre.length+i:=by rw[lp,Enc.kB,k9,hsz]; omega
   refine Aa I (Ae (Kt (Cs I (Mv 3 I (Lq I (Bh I I I) (Lq I (FG (l.length+1) I U22 Z3 I I I (by omega)) (Ak I (Af (Cs I (Mv 4 I (Lq I (Bh I I I) (Lq I (Di (i+1) I U22 Z3 I I I (by omega)) (Pre.fact (λ_ h=>iM (h:=h)) (λhne=>l_e I (Ri (t:=22) (r:=4) (e:=3) I I I func304 aJ aK aI aH U22 Z3 I I (Hat 1 I) (Hat 0 I) (λe=>hne e.symm) (by intro e; rw[e] at hcl; simp at hcl; omega) (Lq I (Qt I) (Nk (Ah I (Af (Do8 (rg 9) 13122 _ I St.drawn Ih (Md 3 I (Dq I (Qi I) (Dq I (Di (i+1) I U22 Z3 I I I (by omega)) (Md 2 I (Dq I (Di i I U22 Z3 I I I (by omega)) (Sv' 73 (.slice (some ⟨b0,pre.length+(i+1),none⟩) (l.length+1-(i+1)) (cap-(i+1))) I (by rw[lz (show ¬cap=i+1 by omega),oq]) (Sv' 76 (.slice (some ⟨b0,pre.length+i,none⟩) (l.length+1-i) (cap-i)) I (by rw[lz (show ¬cap=i by omega),oq]) (d_t I ?_))))))))))))))))))))))))))))
   refine GU (E:=AH .i64) (sc':=cap-i) (m:=l.drop i) (l.length-i) I I I U22 Z3 I I (by omega) (λw2 h=>?_) (by rw[hcl,hsz]; omega) ?_
   .have h1:=CH (EV (h.at 0 rfl) _ l pre.length cap pre post rfl rfl hcap) (lo:=i) (hi:=l.length) (by omega) (lJ _)
    have hsl:vsl (.slice (some ⟨b0,pre.length,none⟩) l.length cap) (AH .i64).sz i l.length=.slice (some ⟨b0,pre.length+i,none⟩) (l.length-i) (cap-i):=by simp[vsl,BJ,show ¬cap=i by omega,hsz]
    rw[hsl] at h1
    simpa using h1
   refine AL (Kt (Cs I (Mv 2 I (Lq I (Di i I U22 Z3 I I I (by omega)) (Lm I (Sv' 80 (.slice (some ⟨b0,pre.length+i,none⟩) (l.length+1-i) (cap-i)) I (by rw[lz (show ¬cap=i by omega),oq]) (l_e I (GU (E:=AH .i64) (sc':=1) (m:=[t]) 1 I I I U22 Z3 I I (by omega) (λ_ h=>AY (h.at 1 I) (AH .i64) [t] I I) (by rw[Hr,hcl,hsz]; omega) (Nk (Cs I (Lm I (Ak I (Ag (Ac (FL (E:=AH .i64) (len:=l.length+1) (cap:=cap) (l.take i++t::l.drop i) pre (post.drop 1) ?_ hlen2 (by omega) (by omega) (by rw[lk,hp0,hsz]; omega) ?_)))))))))))))))
   .have hu:=Ut (pre++(AH .i64).flat (l.take i)) ((AH .i64).flat (l.drop i)) post (.int .i64 t) (by intro e; rw[e] at hp0; simp at hp0; omega)
    rw[hA,mq,mj pre,<-Enc.kL,my] at hu
    refine hu.trans ?_
    rw[Enc.kL,Enc.kM,mj pre]; rfl
   exact fA (Ao I I (λ_ h=>⟨_,rfl,T0,h⟩))
theorem P1 (l:List Int) (i:Nat) (hi:i<l.length) (hn:l.length<=65536):Con prog 249 [v,.int .i64 (i:Int),.int .i64 ((i:Int)+1)] Tr [AA v 3 (AH .i64) l] (λv:Value=>v) Tr (λv=>[AA v 3 (AH .i64) (l.eraseIdx i)]):=by
 intro w hE hH
 obtain⟨bb,oo,cc,rfl⟩:=JS (BU (hH.holds _ (ns ..))) (show 0<l.length by omega)
 refine Ey func249 I hH (Af (Pre.fact (λ_ h=>(h.rd 0 I).cap) (λhcap=>Cr I (Ak I (Cs I (Mv 4 I (Lq I (AJ I U22 I (Hrd 0 I)) (Lq I (Gs i (i+1) l.length I U22 Z3 I (Hrd 0 I) I I I I I I (by omega) (by omega) (by omega)) (Ns (Cs I (Mv 3 I (Nk (Sf 16 I (by omega) (Aa I (Ae (Kt (Cs I (Lm I (Lq I (AJ I U22 I (Hrd 0 I)) (Ak I (Af ?_)))))))))))))))))))))
 refine Do8 (rg 8) 729 Tr I St.drawn Tt (Md 2 I (Dq I (FG i I U22 Z3 I I I (by have:l.length<=cc:=hcap; omega)) (Md 2 I (Dq I (Di (i+1) I U22 Z3 I I I (by omega)) (Sv' 22 (vsl (.slice (some ⟨bb,oo,none⟩) l.length cc) (AH .i64).sz 0 i) I (by simp[vsl,BJ]) (Sv' 25 (vsl (.slice (some ⟨bb,oo,none⟩) l.length cc) (AH .i64).sz (i+1) l.length) rfl (by by_cases h9:cc=i+1<;>simp[vsl,BJ,h9,AH,encW]) ?_))))))
 have hcc:l.length<=vcap (.slice (some ⟨bb,oo,none⟩) l.length cc):=hcap
 refine d_e I (Hy i I I I U22 U22 Z3 I I (λ_ h=>CH (h.rd 0 I) (lo:=i+1) (hi:=l.length) (by omega) (lJ _)) (by simp only[lk,k9]; omega) (λv2 hc2=>Bt (l':=l.eraseIdx i) (by rw[oG,oH]) ?_))
 have hl2:(l.eraseIdx i).length=l.length-1:=by rw[List.length_eraseIdx]; simp; omega
 exact Ai Tt (Das I (AL (Kt (Cs I (Mv 2 I (Lq I (AJ I U22 I (Hrd 0 I)) (Lm I (Lq I (Kj (l.eraseIdx i).length l.length I U22 Z3 I (Hrd 0 I) I I I I (by omega) (by omega)) (l_e I (Gt I I U22 EA I I (by decide) I (by omega) (by omega) (Nk (Cs I (Lm I (Ak I (Ag (Ao I I (λ_ h=>⟨v2,rfl,T0,h⟩)))))))))))))))))
theorem deletew_spec (l:List Wt) (i:Nat) (hi:i<l.length) (hn:l.length<=65536):Con prog 251 [v,.int .i64 (i:Int),.int .i64 ((i:Int)+1)] Tr [AA v 241 encW l] (λv:Value=>v) Tr (λv=>[AA v 241 encW (l.eraseIdx i)]):=by
 intro w hE hH
 obtain⟨bb,oo,cc,rfl⟩:=JS (BU (hH.holds _ (ns ..))) (show 0<l.length by omega)
 refine Ey func251 I hH (Af (Pre.fact (λ_ h=>(h.rd 0 I).cap) (λhcap=>Cr I (Ak I (Cs I (Mv 4 I (Lq I (AJ I Eh I (Hrd 0 I)) (Lq I (Gs i (i+1) l.length I Eh G6 I (Hrd 0 I) I I I I I I (by omega) (by omega) (by omega)) (Ns (Cs I (Mv 3 I (Nk (Sf 16 I (by omega) (Aa I (Ae (Kt (Cs I (Lm I (Lq I (AJ I Eh I (Hrd 0 I)) (Ak I (Af ?_)))))))))))))))))))))
 refine Do8 (rg 8) 729 Tr I St.drawn Tt (Md 2 I (Dq I (FG i I Eh G6 I I I (by have:l.length<=cc:=hcap; omega)) (Md 2 I (Dq I (Di (i+1) I Eh G6 I I I (by omega)) (Sv' 22 (vsl (.slice (some ⟨bb,oo,none⟩) l.length cc) encW.sz 0 i) I (by simp[vsl,BJ]) (Sv' 25 (vsl (.slice (some ⟨bb,oo,none⟩) l.length cc) encW.sz (i+1) l.length) rfl (by by_cases h9:cc=i+1<;>simp[vsl,BJ,h9,AH,encW]) ?_))))))
 have hcc:l.length<=vcap (.slice (some ⟨bb,oo,none⟩) l.length cc):=hcap
 refine d_e I (Hy i I I I Eh Eh G6 I I (λ_ h=>CH (h.rd 0 I) (lo:=i+1) (hi:=l.length) (by omega) (lJ _)) (by simp only[lk,k9]; omega) (λv2 hc2=>Bt (l':=l.eraseIdx i) (by rw[oG,oH]) ?_))
 have hl2:(l.eraseIdx i).length=l.length-1:=by rw[List.length_eraseIdx]; simp; omega
 exact Ai Tt (Das I (AL (Kt (Cs I (Mv 2 I (Lq I (AJ I Eh I (Hrd 0 I)) (Lm I (Lq I (Kj (l.eraseIdx i).length l.length I Eh G6 I (Hrd 0 I) I I I I (by omega) (by omega)) (l_e I (Gt I I Eh NH I I (by decide) I (by omega) (by omega) (Nk (Cs I (Lm I (Ak I (Ag (Ao I I (λ_ h=>⟨v2,rfl,T0,h⟩)))))))))))))))))
abbrev LT (b:Nat) (vR vQ:Value) (m:La):List Ent:=[Ad b 275 [.int .i64 m.pins,vR,.int .i64 m.wr,vQ],AA vR 3 (AH .i64) m.rd,AA vQ 241 encW m.q]
theorem fD {w:World} {W:TypeId} {vR vQ:Value} {E:Enc Int} {E2:Enc Wt} {q:List Wt} {H:List Ent} {h:St w0 D (Ad a T cs::Ad b U us::AA vR W E l::AA vQ 241 E2 q::H) w}:blk vQ≠a\/q=[]:=by
 by_cases hq:q=[]
 .exact .inr hq
 refine .inl ?_
 have:=h.hp.nodup
 obtain⟨b',o,c,rfl⟩:=JS (BU (h.at 3 rfl)) (nZ.2 hq)
 intro e
 have h3:(AA (.slice (some ⟨b',o,none⟩) q.length c) 241 E2 q).at w:=h.at 3 rfl
 have hc:¬c=0:=by
  have:=(BU h3).cap
  have hp:=nZ.2 hq
  have h9:q.length<=c:=this
  omega
 have ho:ownB (.slice (some ⟨b',o,none⟩) q.length c)=some b':=by simp[ownB,hc]
 have hb:b'=a:=e
 subst hb
 simp[Sep.dom,Ad,AA,ho] at this
theorem waits_spec {m:La} (hn:m.q.length<=60000) (b:Nat) (vR vQ:Value) (t:Int):Con prog 250 [pV b,.int .i64 t] Tr (LT b vR vQ m) (λz:Int=>.int .i64 z) (λz=>AtW m.q t z) (λ_=>LT b vR vQ m):=by
 intro w hE hH
 refine enter (n:=11) (vs:=[pV b,.int .i64 t]) (St w (dom (LT b vR vQ m)) (LT b vR vQ (m))) func250 I I I (St.init hH) ?_
 exact Cs I (l_e I (AT I I I I (λbt=>Ak I (Cs I (Mv 2 I (Lfa D4 I G7 I (Lo L4 1 I (Lq I (C3 (fn:=.func 0) (us:=#[pV bt]) 285 I (vs:=#[]) (λa k=>by simp) (λa k=>by simp[k.eval (x:=.tmp 3) rfl])) (Pre.fact (λ_ h=>fD (h:=h)) (λhne=>l_e I (Bf (indexf_spec m.q bt hne t (by omega)) I I I call188 I (Hrd 3 I) (λz hz=>Ak I (Ag (Av (Ao I I (λ_ h=>⟨z,rfl,hz,h⟩))))))))))))))))
theorem I7 {m:La} (hm:m.Ok n) (hn:n<=60000) (b:Nat) (vR vQ:Value) (wr:Bool):Con prog 156 [pV b,.bool wr] Tr (LT b vR vQ m) (λ_:Unit=>.bool (openB m wr)) Tr (λ_=>LT b vR vQ m):=by
 intro w hE hH
 refine enter (n:=22) (vs:=[pV b,.bool wr]) (St w (dom (LT b vR vQ m)) (LT b vR vQ (m))) func156 I I I (St.init hH) ?_
 refine Cs I (Ak I (Cs I (Mv 2 I (Lfa D4 I Z3 I (Lo G3 0 I (Mv 2 I (CB 10 I (λh1=>?_) (λh1=>?_))))))))
 .refine Mv 3 I (CB 13 I (λh2=>?_) (λh2=>?_))
  .exact Mv 8 I (Ak I (Ag (Ao I I (λ_ h=>⟨(),congrArg Eb (by simp[openB, *]),T0,h⟩))))
  .exact Mv 2 I (Lfa D4 I Z22 I (Lo G22 0 I (Lq I (AJ I U22 I (Hrd 1 I)) (Mv 3 I (Ak I (Ag (Ao I I (λ_ h=>⟨(),congrArg Eb (by simp[openB, *]),T0,h⟩))))))))
 .exact Mv 11 I (Ak I (Ag (Ao I I (λ_ h=>⟨(),congrArg Eb (by simp[openB, *]),T0,h⟩))))
theorem may_spec {m:La} (hm:m.Ok n) (hn:n<=60000) (b:Nat) (vR vQ:Value) (t:Int):Con prog 197 [pV b,.int .i64 t] Tr (LT b vR vQ m) (λ_:Unit=>.bool (mayB m t)) Tr (λ_=>LT b vR vQ m):=by
 intro w hE hH
 obtain⟨hlr,hlq⟩:=hm.lens
 refine enter (n:=30) (vs:=[pV b,.int .i64 t]) (St w (dom (LT b vR vQ m)) (LT b vR vQ (m))) func197 I I I (St.init hH) ?_
 refine Cs I (Ak I (Cs I (Mv 3 I (CB 7 I (λh1=>?_) (λh1=>?_)))))
 .refine Mv 2 I (Lfa D4 I Z3 I (Lo G3 0 I (Mv 4 I (CB 15 I (λh2=>?_) (λh2=>?_)))))
  .refine Mv 2 I (Lfa D4 I Z22 I (Lo G22 0 I (Lm I (l_e I (E1 (contains_spec m.rd t (by omega)) I call105 (Hrd 1 I) (λ_ _=>Lq I (Qt I) (Mv 2 I (CB 24 I (λh3=>?_) (λh3=>?_)))))))))
   .refine Mv 2 I (l_e I (BN (waits_spec (m:=m) (by omega) b vR vQ t) I I I call250 I Tt ?_))
    intro z hz
    have hzi:=hz.iff
    exact Mv 2 I (Ak I (Ag (Ao I I (λ_ h=>⟨(),congrArg Eb (by first|(simp_all [mayB]; done)|(simp_all [mayB]; intros; omega)),T0,h⟩))))
   .exact Mv 5 I (Ak I (Ag (Ao I I (λ_ h=>⟨(),congrArg Eb (by first|(simp_all [mayB]; done)|(simp_all [mayB]; intros; omega)),T0,h⟩))))
  .exact Mv 14 I (Ak I (Ag (Ao I I (λ_ h=>⟨(),congrArg Eb (by first|(simp_all [mayB]; done)|(simp_all [mayB]; intros; omega)),T0,h⟩))))
 .refine Mv 22 I (Ak I (Ag ?_))
  exact Ao I I (λ_ h=>⟨(),congrArg Eb (by first|(simp_all [mayB]; done)|(simp_all [mayB]; intros; omega)),T0,h⟩)
theorem writer_spec {m:La} (hm:m.Ok n) (hn:n<=60000) (b:Nat) (vR vQ:Value):Con prog 247 [pV b] Tr (LT b vR vQ m) (λ_:Unit=>.int .i64 m.wr) Tr (λ_=>LT b vR vQ m):=by
 intro w hE hH
 refine enter (n:=7) (vs:=[pV b]) (St w (dom (LT b vR vQ m)) (LT b vR vQ (m))) func247 I I I (St.init hH) ?_
 exact Cs I (Ak I (Cs I (Mv 2 I (Lfa D4 I Z3 I (Lo G3 0 I (Ak I (Ag (Ao I I (λ_ h=>⟨(),rfl,T0,h⟩)))))))))
theorem readers_spec {m:La} (hm:m.Ok n) (hn:n<=60000) (b:Nat) (vR vQ:Value):Con prog 248 [pV b] Tr (LT b vR vQ m) (λv:Value=>v) Tr (λv=>AA v 3 (AH .i64) m.rd::LT b vR vQ m):=by
 intro w hE hH
 obtain⟨hlr,hlq⟩:=hm.lens
 refine enter (n:=8) (vs:=[pV b]) (St w (dom (LT b vR vQ m)) (LT b vR vQ (m))) func248 I I I (St.init hH) ?_
 exact Cs I (Ak I (Cs I (Mv 2 I (Lfa D4 I Z22 I (Lo G22 0 I (l_e I (AZ (clone_spec m.rd (by omega)) I I I call107 I (Hrd 1 I) (λv _=>Ak I (Ag (Ao I I (λ_ h=>⟨v,rfl,T0,h⟩)))))))))))
theorem queue_spec {m:La} (hm:m.Ok n) (hn:n<=60000) (b:Nat) (vR vQ:Value):Con prog 130 [pV b] Tr (LT b vR vQ m) (λv:Value=>v) Tr (λv=>AA v 241 encW m.q::LT b vR vQ m):=by
 intro w hE hH
 obtain⟨hlr,hlq⟩:=hm.lens
 refine enter (n:=8) (vs:=[pV b]) (St w (dom (LT b vR vQ m)) (LT b vR vQ (m))) func130 I I I (St.init hH) ?_
 exact Cs I (Ak I (Cs I (Mv 2 I (Lfa D4 I G7 I (Lo L4 0 I (l_e I (AZ (PZ m.q (by omega)) I I I call189 I (Hrd 2 I) (λv _=>Ak I (Ag (Ao I I (λ_ h=>⟨v,rfl,T0,h⟩)))))))))))
theorem idle_spec {m:La} (hm:m.Ok n) (hn:n<=60000) (b:Nat) (vR vQ:Value):Con prog 98 [pV b] Tr (LT b vR vQ m) (λ_:Unit=>.bool (idleB m)) Tr (λ_=>LT b vR vQ m):=by
 intro w hE hH
 refine enter (n:=20) (vs:=[pV b]) (St w (dom (LT b vR vQ m)) (LT b vR vQ (m))) func98 I I I (St.init hH) ?_
 refine Cs I (Ak I (Cs I (Lm I (l_e I (BN (I7 hm hn b vR vQ true) I I I call156 I Tt (λ_ _=>Lm I (CB 5 I (λh1=>?_) (λh1=>?_))))))))
 .refine Mv 2 I (Lfa D4 I G7 I (Lo L4 0 I (Lq I (AJ I Eh I (Hrd 2 I)) (Mv 3 I (CB 13 I (λh2=>?_) (λh2=>?_))))))
  .exact Mv 2 I (Lfa D4 I sizeOf273 I (Lo isAgg273 0 I (Mv 2 I (Ak I (Ag (Ao I I (λ_ h=>⟨(),congrArg Eb (by simp_all [idleB]),T0,h⟩)))))))
  .exact Mv 6 I (Ak I (Ag (Ao I I (λ_ h=>⟨(),congrArg Eb (by simp_all [idleB]),T0,h⟩))))
 .exact Mv 14 I (Ak I (Ag (Ao I I (λ_ h=>⟨(),congrArg Eb (by simp_all [idleB]),T0,h⟩))))
theorem new_spec:Con prog 102 [] Tr [] (λb:Nat=>pV b) Tr (λb=>LT b (.slice none 0 0) (.slice none 0 0) newL):=by
 intro w hE hH
 refine E0 func102 I hH ?_
 exact Cs I (Ak I (Cs I (Lq I (AP [.int .i64 0,.slice none 0 0,.int .i64 (-1),.slice none 0 0] I I (λw=>by kernel_rfl)) (l_e I (AT I I I I (λb=>Ak I (Ag (row0 3 (AH .i64) none (row0 241 encW none (Pm [2,1] I (Ao I I (λ_ h=>⟨b,rfl,T0,h⟩))))))))))))
theorem J0 {w:World} {t:TypeId} {E:Enc α} {l:List α} (h:(AA v t E l).at w):v.oneCell'=true:=by
 obtain⟨a,c,rfl⟩:=BW h; rfl
theorem Xp {w:World} {t:TypeId} {E:Enc α} {l:List α} (h:(AA v t E l).at w) (s i j:Nat):(vsl v s i j).oneCell'=true:=by
 obtain⟨a,c,rfl⟩:=BW h; rfl
theorem give_spec {m:La} (hs:m.rd.Pairwise (·<·)) (hl:m.rd.length<=60000) (b:Nat) (vR vQ:Value) (t:Int) (wr:Bool):Con prog 257 [pV b,.int .i64 t,.bool wr] Tr (LT b vR vQ m) (λ_:Value=>.tuple #[]) Tr (λv=>LT b v vQ (giveL m t wr)):=by
 intro w hE hH
 refine enter (n:=33) (vs:=[pV b,.int .i64 t,.bool wr]) (St w (dom (LT b vR vQ m)) (LT b vR vQ (m))) func257 I I I (St.init hH) ?_
 refine Af (Cs I (Lm I (Nk (Pre.caseB 8 I (λh1=>?_) (λh1=>?_)))))
 .subst h1
  exact Ah I (Cs I (Mv 3 I (Lfa D4 I Z3 I (l_e I (AG I I Z3 I I I (ng I) (Nk (Ag (Ac (BB I (λ_ h=>⟨vR,rfl,T0,h⟩))))))))))
 .subst h1
  exact Aa I (Ae (Kt (Cs I (Mv 2 I (Lfa D4 I Z22 I (Lo G22 0 I (Lm I (l_e I (E1 (Ob m.rd t hs (by omega)) I call286 (Hrd 1 I) (λz hz=>Lm I (Mv 3 I (Ak I (Cr I (Mv 3 I (Lfa D4 I Z22 I (Lo G22 0 I (Mv 2 I (l_e I (Ax (sz:=1) [.tmp 28] I I I I I U22 Z3 I zeroValue3 I (λbt=>AX (l_e I (Uj (P0 m.rd z.1 t bt hz.1 (by omega)) I I I call287 I Tt (λv2 _=>Bt (l':=ins t m.rd) (fv hz.1 hz.2.1 hz.2.2).symm (Lc I (Lfa D4 I Z22 I (Pre.fact (λ_ h=>J0 (h.at 0 I)) (λhone=>AM (l_e I (AG I I Z22 I I hone (ng I) (AB (Bp (BB I (λ_ h=>⟨v2,rfl,T0,h⟩)))))))))))))))))))))))))))))))))
theorem Xq {m:La} (hm:m.Ok n) (hn:n<=60000) (b:Nat) (vR vQ:Value):Con prog 252 [pV b] Tr (LT b vR vQ m) (λv:Value×Value×Value=>v.1) Tr (λv=>AA v.1 3 (AH .i64) (letL m).1::LT b v.2.1 v.2.2 (letL m).2):=by
 intro w hE hH
 refine enter (n:=48) (vs:=[pV b]) (St w (dom (LT b vR vQ m)) (LT b vR vQ (m))) func252 I I I (St.init hH) ?_
 refine Cs I (Ak I (Cs I (Ak I (Af (Aj (row0 3 (AH .i64) none ?_))))))
 refine SJ (λ(m2:La) (acc:List Int) (v:Value) (vR2:Value) (vQ2:Value)=>[(0,pV b),(3,v)]) (λ(m2:La) (acc:List Int) (v:Value) (vR2:Value) (vQ2:Value)=>St w (dom (LT b vR vQ m)) (AA v 3 (AH .i64) acc::LT b vR2 vQ2 m2)) (λ(m2:La) (acc:List Int) (v:Value) (vR2:Value) (vQ2:Value)=>m2.Ok n/\letL m=(acc++(letL m2).1,(letL m2).2)/\acc.length+m2.q.length<=n) (λ(m2:La) (acc:List Int) (v:Value) (vR2:Value) (vQ2:Value)=>m2.q.length) (m) ([]) (.slice none 0 0) (vR) (vQ) ⟨hm,rfl,by have:=hm.lens; simp; omega⟩ (Si I) Ih (λm2 acc v vR2 vQ2 hp=>Af (Af ?_))
 obtain⟨hm2,hlet,hlen⟩:=hp
 obtain⟨hlr,hlq⟩:=hm2.lens
 refine Cr I (Mv 2 I (Lfa D4 I G7 I (Lo L4 1 I (Lq I (AJ I Eh I (Hrd 3 I)) (Lq I (BQ I I I) (Lm I (CB 11 I (λh1=>?_) (λh1=>?_))))))))
 .obtain⟨y,q,hq⟩:∃y q,m2.q=y::q:=by
   cases hq:m2.q with
   |nil=>rw[hq] at h1; simp at h1
   |cons y q=>exact⟨y,q,rfl⟩
  have hy:m2.q[0]?=some y:=by rw[hq]; rfl
  refine Mv 3 I (Lfa D4 I G7 I (Lo L4 1 I (Lq I (Ar 0 I Eh G6 I (Hrd 3 I) I I) (Lfa Un I Z4 I (Lq I (AI 0 1 I G4 I I (Hrd 3 I) hy I) (Pm [1,1,1] I (l_e I (BN (I7 hm2 hn b vR2 vQ2 y.2) I I I call156 I Tt (λ_ _=>Lq I (Qy I) (Nk (Pre.caseB 21 I (λh2=>?_) (λh2=>?_))))))))))))
  .have hgo:=fz hq h2
   have hok:=iL hm2 hq h2
   refine Ah I (Ae (Kt (Aj (Cs I (Mv 2 I (Lfa D4 I G7 I (Lo L4 0 I (Lq I (Ar 0 I Eh G6 I (Hrd 2 I) I I) (Lq I (AV 0 I isAgg241 G6 I I (Hrd 2 I) hy) (l_e I (Au I I I zeroValue241 (λbw=>l_e I (SA G6 I (encW.one y) (Ce [.int .i64 y.1,.bool y.2] I (Nk (Cs I (Mv 3 I (Lfa D4 I G7 I (Lo L4 1 I (Lq I (Ef 1 I Eh G6 I (Hrd 3 I) I I (by omega)) (Lc I (Lfa D4 I G7 I ?_))))))))))))))))))))))
   have hdrop:m2.q.drop 1=q:=by rw[hq]; rfl
   refine Pre.fact (λ_ h=>Xp (h.at 3 I) encW.sz 1 m2.q.length) (λhone=>AM (l_e I (AG I I G7 I I hone (ng I) (Nk (Cs I (Lm I (Lfa Un I Z3 I (Lo G3 1 I (Lfa Un I Z4 I (Lo G4 1 I (D3 (Wk 1 (by omega) ?_))))))))))))
   rw[hdrop]
   refine Pm [1,2] I (l_e I (BN (give_spec (m:={m2 with q:=q}) hm2.srt (show m2.rd.length<=60000 by omega) b vR2 _ y.1 y.2) I I I call257 I Tt (λvR3 _=>Nk (Cr I (Lm I (Lfa Un I Z3 I (Lo G3 3 I (l_e I (Ax (sz:=1) [.tmp 44] I I I I I U22 Z3 I zeroValue3 I (λb1=>EM (l_e I (Ap U22 U22 EA I (λ_ h=>AY (h.at 1 I) (AH .i64) [y.1] I I) (by simp only[lp,kQ,ob]; omega) (λv3=>Las I (AB (Aw (AM (Av (C0 (Av ?_)))))))))))))))))))
   exact AE ((giveL {m2 with q:=q} y.1 y.2,acc++[y.1],v3,vR3,vsl vQ2 encW.sz 1 m2.q.length)) (by dsimp only; rw[Xm,hq]; simp) ⟨hok,by rw[hlet,hgo]; simp,by rw[Xm]; rw[hq] at hlen; simp at hlen ⊢; omega⟩ (Si I) (λ_ h=>h)
  .have hst:=PY (m:=m2) (.inr ⟨y,q,hq,h2⟩)
   exact Aa I (AO (Ab (Ab (Am (Kt (Cs I (Lm I (Ak I (Ag (Pm [3] I (Ao I I (λ_ h=>⟨(v,vR2,vQ2),rfl,T0,by rw[hlet,hst,nS]; exact h⟩))))))))))))
 .have hst:=PY (m:=m2) (.inl (lA (by omega)))
  exact Mv 10 I (Nk (Aa I (AO (Ab (Ab (Am (Kt (Cs I (Lm I (Ak I (Ag (Ao I I (λ_ h=>⟨(v,vR2,vQ2),rfl,T0,by rw[hlet,hst,nS]; exact h⟩)))))))))))))
theorem Xr {m:La} (hm:m.Ok n) (hn:n<=60000) (b:Nat) (vR vQ:Value) (t:Int) (wr:Bool):Con prog 198 [pV b,.int .i64 t,.bool wr] Tr (LT b vR vQ m) (λ_:Value=>.bool (tryB m t wr)) Tr (λv=>LT b v vQ (Oa m t wr)):=by
 intro w hE hH
 obtain⟨hlr,hlq⟩:=hm.lens
 refine enter (n:=29) (vs:=[pV b,.int .i64 t,.bool wr]) (St w (dom (LT b vR vQ m)) (LT b vR vQ (m))) func198 I I I (St.init hH) ?_
 refine Cs I (Ak I (Af (Cs I (Mv 2 I (l_e I (BN (may_spec hm hn b vR vQ t) I I I call197 I Tt (λ_ _=>Lq I (Qt I) (Lm I (CB 11 I (λh1=>?_) (λh1=>?_))))))))))
 .refine Mv 13 I (Nk (Ah I (Cs I (Ak I (Ag (Ac ?_))))))
  have e:tryB m t wr=false:=by first|(simp_all [tryB]; done)|(unfold tryB; rw[show decide (m.q.length=0)=false from oc (by omega)]; simp)
  exact Ao I I (λ_ h=>⟨vR,congrArg Eb e.symm,T0,by unfold Oa; rw[e]; exact h⟩)
 .refine Mv 2 I (Lfa D4 I G7 I (Lo L4 0 I (Lq I (AJ I Eh I (Hrd 2 I)) (Lq I (BQ I I I) (Mv 2 I (CB 19 I (λh2=>?_) (λh2=>?_)))))))
  .refine Mv 5 I (Nk (Ah I (Cs I (Ak I (Ag (Ac ?_))))))
   have e:tryB m t wr=false:=by first|(simp_all [tryB]; done)|(unfold tryB; rw[show decide (m.q.length=0)=false from oc (by omega)]; simp)
   exact Ao I I (λ_ h=>⟨vR,congrArg Eb e.symm,T0,by unfold Oa; rw[e]; exact h⟩)
  .refine Mv 2 I (l_e I (BN (I7 hm hn b vR vQ wr) I I I call156 I Tt (λ_ _=>Lq I (Qt I) (Lq I (Qz I) (Nk (CB 24 I (λh3=>?_) (λh3=>?_)))))))
   .refine Ah I (Cs I (Ak I (Ag (Ac ?_))))
    have e:tryB m t wr=false:=by first|(simp_all [tryB]; done)|(unfold tryB; rw[show decide (m.q.length=0)=false from oc (by omega)]; simp)
    exact Ao I I (λ_ h=>⟨vR,congrArg Eb e.symm,T0,by unfold Oa; rw[e]; exact h⟩)
   .refine Aa I (Ae (Kt (Cs I (Mv 3 I ?_))))
    have e:tryB m t wr=true:=by first|(simp_all [tryB]; done)|(unfold tryB; rw[show decide (m.q.length=0)=true from od (by omega)]; simp_all)
    exact l_e I (BN (give_spec hm.srt (by omega) b vR vQ t wr) I I I call257 I Tt (λv2 _=>Nk (Cs I (Ak I (Ag (Ao I I (λ_ h=>⟨v2,congrArg Eb e.symm,T0,by unfold Oa; rw[e]; exact h⟩)))))))
theorem take_spec {m:La} (hm:m.Ok n) (hn:n<=60000) (b:Nat) (vR vQ:Value) (t:Int) (wr:Bool):Con prog 135 [pV b,.int .i64 t,.bool wr] Tr (LT b vR vQ m) (λ_:Value×Value=>.bool (tryB m t wr)) Tr (λv=>LT b v.1 v.2 (takeL m t wr)):=by
 intro w hE hH
 obtain⟨hlr,hlq⟩:=hm.lens
 refine enter (n:=31) (vs:=[pV b,.int .i64 t,.bool wr]) (St w (dom (LT b vR vQ m)) (LT b vR vQ (m))) func135 I I I (St.init hH) ?_
 refine Cs I (Ak I (Af (Cs I (Mv 2 I (l_e I (BN (may_spec hm hn b vR vQ t) I I I call197 I Tt (λ_ _=>Lq I (Qt I) (Nk (CB 11 I (λh1=>?_) (λh1=>?_))))))))))
 .have hb:tryB m t wr=false:=by unfold tryB; rw[h1]; rfl
  have ht:takeL m t wr=m:=by unfold takeL; rw[h1]; rfl
  exact Ah I (Cs I (Ak I (Ag (Ac (Ao I I (λ_ h=>⟨(vR,vQ),congrArg Eb (hb.symm),T0,by rw[ht]; exact h⟩))))))
 .refine Aa I (Ae (Kt (Cs I (Mv 3 I (l_e I (BN (Xr hm hn b vR vQ t wr) I I I call198 I Tt (λv2 _=>Ak I (Af (Cs I (Mv 2 I (Nk (CB 17 I (λh2=>?_) (λh2=>?_)))))))))))))
  .have ht:takeL m t wr=HU m t wr:=by unfold takeL; rw[h1,h2]; rfl
   have hl:Oa m t wr=m:=by unfold Oa; rw[h2]; rfl
   rw[hl]
   exact Ah I (Cr I (Mv 3 I (Lfa D4 I G7 I (Lo L4 0 I (Mv 2 I (Lq I (AP ([.int .i64 t,.bool wr]) I I (λw=>by kernel_rfl)) (l_e I (Ax (sz:=2) [.tmp 25] I I I I I Eh G6 I zeroValue241 I (λb1=>D3 (l_e I (Ap Eh Eh NH I (λ_ h=>AY (h.at 1 I) encW [(t,wr)] I I) (by simp only[lp,kQ,ob]; omega) (λv3=>Lc I (Lfa D4 I G7 I (Pre.fact (λ_ h=>J0 (h.at 0 I)) (λhone=>AX (l_e I (AG I I G7 I I hone (ng I) (Nk (Cs I (Lm I (Ak I (Ag (AX (Av (Pm [0,1] I (Ao I I (λ_ h=>⟨(v2,v3),congrArg Eb (I),T0,by rw[ht]; exact h⟩)))))))))))))))))))))))))))
  .have ht:takeL m t wr=Oa m t wr:=by unfold takeL Oa; rw[h1,h2]; rfl
   exact Aa I (Ae (Kt (Cs I (Lm I (Ak I (Ag (Ao I I (λ_ h=>⟨(v2,vQ),congrArg Eb (I),T0,by rw[ht]; exact h⟩))))))))
theorem drop_spec {m:La} (hm:m.Ok n) (hn:n<=60000) (b:Nat) (vR vQ:Value) (t:Int):Con prog 176 [pV b,.int .i64 t] Tr (LT b vR vQ m) (λv:Value×Value×Value=>v.1) Tr (λv=>AA v.1 3 (AH .i64) (dropL m t).1::LT b v.2.1 v.2.2 (dropL m t).2):=by
 intro w hE hH
 obtain⟨hlr,hlq⟩:=hm.lens
 refine enter (n:=55) (vs:=[pV b,.int .i64 t]) (St w (dom (LT b vR vQ m)) (LT b vR vQ (m))) func176 I I I (St.init hH) ?_
 refine Cs I (Ak I (Af (Cs I (Mv 2 I (Nk (CB 8 I (λh0=>?_) (λh0=>?_)))))))
 .have hd:dropL m t=([],m):=by unfold dropL; rw[lu h0]
  exact Ah I (Cs I (Ak I (Ag (Ac (row0 3 (AH .i64) none (Ao I I (λ_ h=>⟨(.slice none 0 0,vR,vQ),rfl,T0,by rw[hd]; exact h⟩)))))))
 .have hd:dropL m t=letL (leaveL m t):=by unfold dropL; rw[lz h0]
  refine Aa I (Ae (Ks (Cs I (Mv 2 I (Lfa D4 I Z3 I (Lo G3 0 I (Mv 2 I (Nk ?_))))))))
  refine Dw (λ(vR2:Value) (vQ2:Value)=>[(0,pV b),(1,.int .i64 t)]) (λ(vR2:Value) (vQ2:Value)=>St w (dom (LT b vR vQ m)) (LT b vR2 vQ2 ({m with wr:=if m.wr=t then -1 else m.wr}))) (λ(vR2:Value) (vQ2:Value)=>True) ?_ ?_
  .refine CB 14 I (λh1=>?_) (λh1=>?_)
   .refine Ah I (Cr I (Mv 2 I (Lfa D4 I Z3 I (l_e I (AG I I Z3 I I I (ng I) (AB ?_))))))
    exact Bc ((vR,vQ)) trivial (Si I) (λ_ h=>by rw[lu h1]; exact h)
   .refine Aa I (Ae ?_)
    exact Bc ((vR,vQ)) trivial (Si I) (λ_ h=>by rw[lz h1]; exact h)
  .intro vR2 vQ2 _
   refine Af (Cs I (Mv 2 I (Lfa D4 I Z22 I (Lo G22 0 I (Lm I (l_e I (E1 (index_spec m.rd t (by omega)) I call157 (Hrd 1 I) (λz hz=>Ak I (Cs I (Mv 2 I (Nk ?_)))))))))))
   refine Dw (λ(vR3:Value) (vQ3:Value)=>[(0,pV b),(1,.int .i64 t)]) (λ(vR3:Value) (vQ3:Value)=>St w (dom (LT b vR vQ m)) (LT b vR3 vQ3 ({m with wr:=if m.wr=t then -1 else m.wr,rd:=m.rd.filter (λx=>decide (x≠t))}))) (λ(vR3:Value) (vQ3:Value)=>True) ?_ ?_
   .refine CB 25 I (λh2=>?_) (λh2=>?_)
    .obtain⟨k,rfl,hk⟩:∃k:Nat,z=(k:Int)/\m.rd[k]?=some t:=by
      rcases hz with⟨rfl,_⟩|hz
      .omega
      .exact hz
     have hkl:=(lR.1 hk).1
     refine Ah I (Cr I (Mv 3 I (Lfa D4 I Z22 I (Lo G22 0 I (Mv 2 I (Lq I (Bh I I I) (AM (l_e I (Bf (P1 m.rd k hkl (by omega)) I I I call249 I Tt (λv3 _=>Bt (l':=m.rd.filter (λx=>decide (x≠t))) (I6 (f:=λx=>x) (by simpa using hm.rn) hk I).symm (Lc I (Lfa D4 I Z22 I (Pre.fact (λ_ h=>J0 (h.at 0 I)) (λhone=>AM (l_e I (AG I I Z22 I I hone (ng I) (AB ?_)))))))))))))))))
     exact Bc ((v3,vQ2)) trivial (Si I) (λ_ h=>h)
    .have hno:m.rd.filter (λx=>decide (x≠t))=m.rd:=MU (f:=λx=>x) (by
      rcases hz with⟨_,hz⟩|⟨k,rfl,_⟩
      .simpa using hz
      .omega)
     refine Aa I (Ae ?_)
     exact Bc ((vR2,vQ2)) trivial (Si I) (λ_ h=>by rw[hno]; exact h)
   .intro vR3 vQ3 _
    refine Af (Cs I (Mv 2 I (l_e I (BN (waits_spec (m:={m with wr:=if m.wr=t then -1 else m.wr,rd:=m.rd.filter (λx=>decide (x≠t))}) (show m.q.length<=60000 by omega) b vR3 vQ3 t) I I I call250 I Tt (λz hz=>Ak I (Cs I (Mv 2 I (Nk ?_))))))))
    refine Dw (λ(vR4:Value) (vQ4:Value)=>[(0,pV b),(1,.int .i64 t)]) (λ(vR4:Value) (vQ4:Value)=>St w (dom (LT b vR vQ m)) (LT b vR4 vQ4 (leaveL m t))) (λ(vR4:Value) (vQ4:Value)=>True) ?_ ?_
    .refine CB 41 I (λh3=>?_) (λh3=>?_)
     .obtain⟨k,y,rfl,hk,hy⟩:∃(k:Nat) (y:Wt),z=(k:Int)/\m.q[k]?=some y/\y.1=t:=by
       rcases hz with⟨rfl,_⟩|hz
       .omega
       .exact hz
      have hkl:=(lR.1 hk).1
      refine Ah I (Cr I (Mv 3 I (Lfa D4 I G7 I (Lo L4 0 I (Mv 2 I (Lq I (Bh I I I) (AX (l_e I (Bf (deletew_spec m.q k hkl (by omega)) I I I call251 I Tt (λv3 _=>Bt (l':=(leaveL m t).q) (I6 hm.qn hk hy).symm (Lc I (Lfa D4 I G7 I (Pre.fact (λ_ h=>J0 (h.at 0 I)) (λhone=>AM (l_e I (AG I I G7 I I hone (ng I) (AB (Pm [0,1] I ?_))))))))))))))))))
      exact Bc ((vR3,v3)) trivial (Si I) (λ_ h=>h)
     .have hno:(leaveL m t).q=m.q:=MU (by
       rcases hz with⟨_,hz⟩|⟨k,_,rfl,_⟩
       .exact hz
       .omega)
      refine Aa I (Ae ?_)
      exact Bc ((vR3,vQ3)) trivial (Si I) (λ_ h=>by unfold LT; rw[hno]; exact h)
    .intro vR4 vQ4 _
     exact Cs I (Lm I (l_e I (Mp (Xq (leave_ok hm (by omega)) hn b vR4 vQ4) I I I call252 I Tt (λv _=>Ak I (Ag (Ao I I (λ_ h=>⟨v,rfl,T0,by rw[hd]; exact h⟩)))))))
end Go.Proofs.YtloldofjddbjoaaGreat.Lt
namespace Go.Proofs.YtloldofjddbjoaaGreat
open Go.Sep Go.RowKit Tryz
variable {B i C k n:Nat} {P:Program} {f:FuncId} {vs:List Value} {E E':World->Prop} {β γ α:Type} {w:World} {M:Mo} {b:Int} {S:CS} {G:List Ent}
theorem Con.pack {H H':List Ent} (F:List Ent) {β γ:Type} {v:β->Value} {p:β->Prop} {HB:β->List Ent} {v':γ->Value} {p':γ->Prop} {HB':γ->List Ent} (s:Con P f vs E H v p HB) (hp:H'.Perm (H++F)) (hE:∀w,E' w->HP H' w->E w) (g:β->γ)
 (hg:∀b,p b->v b=v' (g b)/\p' (g b)/\∃K,(HB b++F).Perm (HB' (g b)++K)):Con P f vs E' H' v' p' HB':=λw he hh =>
 (s.frame (F:=F) ((St.init hh).perm hp) (hE w he hh)).mono (λe w' ⟨b,h1,h2,h3⟩=>by
  obtain⟨h4,h5,K,h6⟩:=hg b h2
  exact⟨g b,by rw[h1,h4],h5,(h3.perm h6).cut⟩)
theorem P2 (l:List Ent):l.Perm (l++[]):=by rw[nS]
theorem Xs (A B S G:List Ent):(A++B++S++G).Perm (B++(S++(A++G))):=by
 simp only[mj]
 exact (pe A B (S++G)).trans ((pe A S G).append_left B)
structure Q where
 S:CS
 M:Mo
 G:List Ent
namespace Q
def H (bc:Nat) (q:Q):List Ent:=q.S.H bc++q.G
structure Ok (q:Q) (B:Nat):Prop where
 rel:Rel q.S q.M
 ok:q.M.Ok B
 nin:NIn q.G q.S.fl
end Q
theorem Q.Ok.mono {q:Q} (h:q.Ok B) (hBC:B<=C) (hC:C<=60000):q.Ok C:=⟨h.rel,h.ok.mono hBC hC,h.nin⟩
theorem iN {bc:Nat} {H:List Ent} (h:HP H w) (hs:∀e∈S.H bc,e∈H):CR w bc S:=CR.ofm (St.init h) hs
theorem iO {H:List Ent} (hN:NIn G S.fl) (h:HP H w) (hs:∀e∈G,e∈H):NR w S:=λf hf=>(hN f hf).rd h hs
theorem NIn.more {G':List Ent} {fl:List FC} (h:NIn G fl) (hs:∀e∈G,e∈G'):NIn G' fl:=λf hf=>(h f hf).more hs
structure LC where
 b:Nat
 vR:Value
 vQ:Value
 m:Lt.La
abbrev LC.H (l:LC):List Ent:=Lt.LT l.b l.vR l.vQ l.m
def LTs (l:List LC):List Ent:=l.flatMap LC.H
theorem Ip (a:LC) (l:List LC):LTs (a::l)=a.H++LTs l:=rfl
theorem Xt:∀{l:List LC} {i:Nat} {a:LC},l[i]?=some a->(LTs l).Perm (a.H++LTs (l.eraseIdx i))
 |[],i,a,h=>by simp at h
 |x::l,0,a,h=>by simp at h; subst h; exact oe _
 |x::l,i+1,a,h=>by
  have ih:=Xt (l:=l) (i:=i) (a:=a) (by simpa using h)
  rw[oz,Ip,Ip]
  exact (ih.append_left x.H).trans (pe _ _ _)
theorem dQ:∀{l:List LC} {i:Nat} (a:LC),i<l.length->(a.H++LTs (l.eraseIdx i)).Perm (LTs (l.set i a))
 |[],i,a,h=>by simp at h
 |x::l,0,a,h=>oe _
 |x::l,i+1,a,h=>by
  have ih:=dQ (l:=l) (i:=i) a (by simpa using h)
  rw[oz,nO,Ip,Ip]
  exact (pe _ _ _).trans (ih.append_left x.H)
def JG:Enc Nat:=⟨1,λb=>[pV b],λ_=>rfl,λa u h=>by simp at h; subst h; rfl,by decide⟩
structure HQ where
 bh:Nat
 bc:Nat
 bs:Nat
 bR:Nat
 vL:Value
 vB:Value
 vU:Value
 rd:List (Int×Int)
 s:Sto
 lt:List LC
 q:Q
abbrev ptV (b:Nat):Value:=pV b
abbrev HQ.cells (x:HQ):List Value:=[ptV x.bc,ptV x.bs,x.vL,.map (some x.bR)]
abbrev HQ.H (x:HQ):List Ent:=Ad x.bh 91 x.cells::AA x.vL 203 JG (x.lt.map LC.b)::Dz x.bR kI kI x.rd::Ad x.bs 161 [x.vB,x.vU]::AA x.vB 279 Bk.enc x.s.bl::AA x.vU 4 FB x.s.us::(LTs x.lt++x.q.H x.bc)
abbrev HQ.rest (x:HQ):List Ent:=Ad x.bh 91 x.cells::AA x.vL 203 JG (x.lt.map LC.b)::Dz x.bR kI kI x.rd::Ad x.bs 161 [x.vB,x.vU]::AA x.vB 279 Bk.enc x.s.bl::AA x.vU 4 FB x.s.us::LTs x.lt
structure HQ.Ok (x:HQ) (B:Nat):Prop where
 q:x.q.Ok B
 s:x.s.Ok
 l:∀l∈x.lt,l.m.Ok B
 ll:x.lt.length=x.q.M.fr.length
 rn:(x.rd.map Prod.fst).Nodup
theorem HQ.H_perm (x:HQ):x.H.Perm (x.q.H x.bc++x.rest):=(show x.H=x.rest++x.q.H x.bc from rfl)▸og
theorem HQ.H_perm' (x:HQ) (q:Q):(q.H x.bc++x.rest).Perm ({x with q:=q}:HQ).H:=og
theorem HQ.Ok.b9 {x:HQ} (h:x.Ok B):B<=60000:=h.q.ok.B9
theorem HQ.Ok.mono {x:HQ} (h:x.Ok B) (hBC:B<=C) (hC:C<=60000):x.Ok C:=⟨h.q.mono hBC hC,h.s,λl hl=>(h.l l hl).mono hBC,h.ll,h.rn⟩
theorem P3 {x:HQ} (h:HP x.H w):CR w x.bc x.q.S:=iN h (λe he=>by
 show e∈x.rest++(x.q.S.H x.bc++x.q.G)
 exact nK _ (lO _ he))
theorem dR {x:HQ} (h:x.Ok B) (hh:HP x.H w):NR w x.q.S:=iO h.q.nin hh (λe he=>by
 show e∈x.rest++(x.q.S.H x.bc++x.q.G)
 exact nK _ (nK _ he))
theorem HQ.lift {x:HQ} {v:β->Value} {p:β->Prop} {A:List Ent} {HB:β->List Ent} {v':γ->Value} {p':γ->Prop} {A':γ->List Ent} (s:Con P f vs E (A++x.q.S.H x.bc) v p HB) (hE:∀w,E' w->HP (A++x.H) w->E w) (g:β->γ) (qn:γ->Q)
 (hg:∀b,p b->v b=v' (g b)/\p' (g b)/\(HB b++x.q.G).Perm (A' (g b)++(qn (g b)).H x.bc)):Con P f vs E' (A++x.H) v' p' (λc=>A' c++({x with q:=qn c}:HQ).H) :=
 Con.pack (x.q.G++x.rest) s (by
  have h1:(A++x.H).Perm (A++((x.q.S.H x.bc++x.q.G)++x.rest)):=(x.H_perm).append_left A
  simpa only[mj] using h1) hE g (λb hb=>by
  obtain⟨h1,h2,h3⟩:=hg b hb
  refine⟨h1,h2,[],?_⟩
  rw[nS,<-mj]
  refine (h3.append_right x.rest).trans ?_
  rw[mj]
  exact (x.H_perm' (qn (g b))).append_left _)
theorem HQ.look {x:HQ} {v:β->Value} {p:β->Prop} {HB:β->List Ent} (s:Con P f vs E [] v p HB) (hE:∀w,HP x.H w->E w):Con P f vs Tr x.H v p (λc=>HB c++x.H) :=
 Con.pack x.H s (oe _) (λw _ h=>hE w h) id (λb hb=>⟨rfl,hb,[],P2 _⟩)
theorem Fw (M:Mo) (i:Nat) (y:Vw):(M.put i y).fr.length=M.fr.length:=nU
theorem aL (M:Mo) (t b:Int):(M.pin t b).2.fr.length=M.fr.length:=by
 unfold Mo.pin
 split
 .rfl
 .split
  .dsimp only; split
   .exact Fw ..
   .exact Fw ..
  .split
   .rfl
   .exact Fw ..
theorem Vd (M:Mo) (t:Int):(M.claim t).2.fr.length=M.fr.length:=by
 unfold Mo.claim
 split
 .rfl
 .split
  .rfl
  .exact Fw ..
theorem Xu (M:Mo) (b:Int) (nd:Nd):(M.fill b nd).2.fr.length=M.fr.length:=by
 unfold Mo.fill; split
 .exact Fw ..
 .rfl
theorem Xw (M:Mo) (t:Int):(M.give t).fr.length=M.fr.length:=mB ..
theorem Xx (M:Mo) (t b:Int) (nd:Nd):(M.name t b nd).2.fr.length=M.fr.length:=by
 unfold Mo.name; split
 .exact Fw ..
 .rfl
theorem Ve (M:Mo) (b:Int):(M.unpin b).2.fr.length=M.fr.length:=by
 unfold Mo.unpin; split
 .split
  .rfl
  .exact Fw ..
 .rfl
theorem aM (M:Mo) (b:Int) (nd:Nd):(M.setN b nd).2.fr.length=M.fr.length:=by
 unfold Mo.setN; split
 .exact Fw ..
 .rfl
abbrev HQ.setq (x:HQ) (q:Q):HQ:={x with q:=q}
theorem HQ.Ok.setq {x:HQ} {q:Q} (h:x.Ok B) (hq:q.Ok C) (hBC:B<=C) (hl:q.M.fr.length=x.q.M.fr.length):(x.setq q).Ok C:=⟨hq,h.s,λl hm=>(h.l l hm).mono hBC,by show x.lt.length=q.M.fr.length; rw[hl]; exact h.ll,h.rn⟩
theorem HQ.lift0 {x:HQ} {v:β->Value} {p:β->Prop} {HB:β->List Ent} {v':γ->Value} {p':γ->Prop} {A':γ->List Ent} (s:Con P f vs E (x.q.S.H x.bc) v p HB) (hE:∀w,E' w->HP x.H w->E w) (g:β->γ) (qn:γ->Q)
 (hg:∀b,p b->v b=v' (g b)/\p' (g b)/\(HB b++x.q.G).Perm (A' (g b)++(qn (g b)).H x.bc)):Con P f vs E' x.H v' p' (λc=>A' c++(x.setq (qn c)).H) :=
 HQ.lift (A:=[]) s hE g qn hg
theorem aN {x:HQ} (h:x.Ok B) (hB:B+1<=60000) (t b:Int) (hb64:i64 b):Con prog 174 [ptV x.bc,.int .i64 t,.int .i64 b] Tr x.H (λ_:Q=>.int .i64 (x.q.M.pin t b).1) (λq=>q.M=(x.q.M.pin t b).2/\(x.setq q).Ok (B+1)) (λq=>(x.setq q).H) :=
 HQ.lift0 (A':=λ_=>[]) (WR h.q.rel h.q.ok hB t b hb64) (λ_ _ _=>trivial) (λS'=>(⟨S',(x.q.M.pin t b).2,x.q.G⟩:Q)) id (λS' hp=>⟨rfl,⟨rfl,h.setq ⟨hp.1,pin_ok h.q.ok t b hB,hp.2 _ h.q.nin⟩ (oS B) (aL _ _ _)⟩,oe _⟩)
theorem fF {x:HQ} (h:x.Ok B) (hB:B+1<=60000) (t:Int):Con prog 207 [ptV x.bc,.int .i64 t] Tr x.H (λ_:Q=>.bool (x.q.M.claim t).1) (λq=>q.M=(x.q.M.claim t).2/\(x.setq q).Ok (B+1)) (λq=>(x.setq q).H) :=
 HQ.lift0 (A':=λ_=>[]) (Rs h.q.rel h.q.ok t) (λ_ _ _=>trivial) (λS'=>(⟨S',(x.q.M.claim t).2,x.q.G⟩:Q)) id (λS' hp=>⟨rfl,⟨rfl,h.setq ⟨hp.1,claim_ok h.q.ok t hB,hp.2 _ h.q.nin⟩ (oS B) (Vd _ _)⟩,oe _⟩)
theorem fG {x:HQ} (h:x.Ok B) (b:Int):Con prog 177 [ptV x.bc,.int .i64 b] Tr x.H (λ_:Q=>.bool (x.q.M.unpin b).1) (λq=>q.M=(x.q.M.unpin b).2/\(x.setq q).Ok B) (λq=>(x.setq q).H) :=
 HQ.lift0 (A':=λ_=>[]) (Rq h.q.rel h.q.ok b) (λ_ _ _=>trivial) (λS'=>(⟨S',(x.q.M.unpin b).2,x.q.G⟩:Q)) id (λS' hp=>⟨rfl,⟨rfl,h.setq ⟨hp.1,unpin_ok h.q.ok b,hp.2 _ h.q.nin⟩ (lJ B) (Ve _ _)⟩,oe _⟩)
theorem iP {x:HQ} (h:x.Ok B) (t:Int):Con prog 263 [ptV x.bc,.int .i64 t] Tr x.H (λ_:Q=>.int .i64 (x.q.M.claims t:Int)) (λq=>q.M=(x.q.M.give t)/\(x.setq q).Ok B) (λq=>(x.setq q).H) :=
 HQ.lift0 (A':=λ_=>[]) (give_spec h.q.rel h.q.ok t) (λ_ _ _=>trivial) (λS'=>(⟨S',(x.q.M.give t),x.q.G⟩:Q)) id (λS' hp=>⟨rfl,⟨rfl,h.setq ⟨hp.1,give_ok h.q.ok t,hp.2 _ h.q.nin⟩ (lJ B) (Xw _ _)⟩,oe _⟩)
theorem I8 {x:HQ} (h:x.Ok B) (nv:NV) (hn:nv.d.Sm 1000) (b:Int):Con prog 261 [ptV x.bc,.int .i64 b,.agg nv.c.toArray] Tr (Bz nv++x.H) (λ_:Q=>.bool (x.q.M.setN b nv.d).1) (λq=>q.M=(x.q.M.setN b nv.d).2/\(x.setq q).Ok B) (λq=>Bz nv++(x.setq q).H) :=
 HQ.lift (A':=λ_=>Bz nv) (WM h.q.rel h.q.ok b nv (hn.mono (by decide))) (λ_ _ _=>trivial) (λr=>(⟨r.1,(x.q.M.setN b nv.d).2,Bz r.2++x.q.G⟩:Q)) id (λr hp=>⟨rfl,⟨rfl,h.setq ⟨hp.1,fg h.q.ok b nv.d hn,hp.2 _ (λe he=>lO _ he) (h.q.nin.more (λe he=>nK _ he))⟩ (lJ B) (aM _ _ _)⟩,Xs _ _ _ _⟩)
theorem P4 {x:HQ} (h:x.Ok B) (nv:NV) (hn:nv.d.Sm 1000) (t b:Int):Con prog 268 [ptV x.bc,.int .i64 t,.int .i64 b,.agg nv.c.toArray] Tr (Bz nv++x.H) (λ_:Q=>.bool (x.q.M.name t b nv.d).1) (λq=>q.M=(x.q.M.name t b nv.d).2/\(x.setq q).Ok B) (λq=>Bz nv++(x.setq q).H) :=
 HQ.lift (A':=λ_=>Bz nv) (UQ h.q.rel h.q.ok t b nv (hn.mono (by decide))) (λ_ _ _=>trivial) (λr=>(⟨r.1,(x.q.M.name t b nv.d).2,Bz r.2++x.q.G⟩:Q)) id (λr hp=>⟨rfl,⟨rfl,h.setq ⟨hp.1,aD h.q.ok t b nv.d hn,hp.2 _ (λe he=>lO _ he) (h.q.nin.more (λe he=>nK _ he))⟩ (lJ B) (Xx _ _ _ _)⟩,Xs _ _ _ _⟩)
theorem iQ {x:HQ} (h:x.Ok B) (nv:NV) (hn:nv.d.Sm 1000) (b:Int):Con prog 133 [ptV x.bc,.int .i64 b,.agg nv.c.toArray] Tr (Bz nv++x.H) (λr:Q×Value=>.tuple #[r.2,.bool (x.q.M.fill b nv.d).1.2]) (λr=>r.1.M=(x.q.M.fill b nv.d).2/\(x.setq r.1).Ok B) (λr=>(AA r.2 3 (AH .i64) (x.q.M.fill b nv.d).1.1::Bz nv)++(x.setq r.1).H) :=
 HQ.lift (A':=λr:Q×Value=>AA r.2 3 (AH .i64) (x.q.M.fill b nv.d).1.1::Bz nv) (UL h.q.rel h.q.ok b nv (hn.mono (by decide))) (λ_ _ _=>trivial) (λr=>((⟨r.1,(x.q.M.fill b nv.d).2,Bz r.2.1++x.q.G⟩:Q),r.2.2)) Prod.fst (λr hp=>⟨rfl,⟨rfl,h.setq ⟨hp.1,fill_ok h.q.ok b nv.d hn,hp.2 _ (λe he=>lO _ he) (h.q.nin.more (λe he=>nK _ he))⟩ (lJ B) (Xu _ _ _)⟩,(Xs _ _ _ _).cons _⟩)
theorem iR {x:HQ} (h:x.Ok B) (t:Int):Con prog 132 [ptV x.bc,.int .i64 t] Tr x.H (λ_:Unit=>.bool (x.q.M.may t)) Tr (λ_:Unit=>[]++x.H) :=
 HQ.look (Rn h.q.rel h.q.ok t) (λw hh=>P3 hh)
theorem dS {x:HQ} (h:x.Ok B):Con prog 99 [ptV x.bc] Tr x.H (λv:Value=>v) Tr (λv:Value=>[AA v 3 (AH .i64) (x.q.M.line.map Prod.fst)]++x.H) :=
 HQ.look (UF h.q.rel h.q.ok) (λw hh=>P3 hh)
theorem Xy {x:HQ} (h:x.Ok B) (b:Int):Con prog 116 [ptV x.bc,.int .i64 b] Tr x.H (λs:N4=>.tuple #[.agg (⟨s,(x.q.M.node b).1⟩:NV).c.toArray,.bool (x.q.M.node b).2]) Tr (λs:N4=>Bz ⟨s,(x.q.M.node b).1⟩++x.H) :=
 HQ.look (UI h.q.rel h.q.ok b) (λw hh=>⟨P3 hh,dR h hh⟩)
theorem fH {x:HQ} (h:x.Ok B) (b:Int):Con prog 194 [ptV x.bc,.int .i64 b] Tr x.H (λ_:Unit=>.int .i64 (io (x.q.M.find b))) Tr (λ_:Unit=>[]++x.H) :=
 HQ.look (Ej h.q.rel h.q.ok b) (λw hh=>P3 hh)
theorem Tn {x:HQ} (h:x.Ok B) (t:Int):Con prog 262 [ptV x.bc,.int .i64 t] Tr x.H (λ_:Unit=>.int .i64 (x.q.M.claims t:Int)) Tr (λ_=>x.H) :=
 Con.pack (x.q.G++x.rest) (Pv h.q.rel h.q.ok t) (by have:=x.H_perm; unfold Q.H at this; rwa[mj] at this) (λ_ _ _=>trivial) id (λ_ _=>⟨rfl,T0,[],by rw[nS]; have:=x.H_perm.symm; unfold Q.H at this; rwa[mj] at this⟩)
theorem fI {x:HQ} (h:x.Ok B) (b:Int):Con prog 196 [ptV x.bc,.int .i64 b] Tr x.H (λ_:Unit=>.bool (x.q.M.frI b 2).isSome) Tr (λ_=>x.H) :=
 Con.pack (x.q.G++x.rest) (Rt h.q.rel h.q.ok b) (by have:=x.H_perm; unfold Q.H at this; rwa[mj] at this) (λ_ _ _=>trivial) id (λ_ _=>⟨rfl,T0,[],by rw[nS]; have:=x.H_perm.symm; unfold Q.H at this; rwa[mj] at this⟩)
theorem aP {x:HQ} (h:x.Ok B):Con prog 97 [ptV x.bc] Tr x.H (λb:Value×List FC×List Ent=>b.1) (λb=>b.2.1.map vw=x.q.M.fr/\∀f∈b.2.1,∀e∈Bz f.nv,e∈b.2.2) (λb=>(AA b.1 202 FC.encA b.2.1::b.2.2)++x.H) :=
 HQ.look (Pj h.q.rel h.q.ok) (λw hh=>⟨P3 hh,dR h hh⟩)
abbrev HQ.setS (x:HQ) (s:Sto):HQ:={x with s:=s}
abbrev HQ.setL (x:HQ) (i:Nat) (l:LC):HQ:={x with lt:=x.lt.set i l}
abbrev HQ.pre3 (x:HQ):List Ent:=[Ad x.bh 91 x.cells,AA x.vL 203 JG (x.lt.map LC.b),Dz x.bR kI kI x.rd]
abbrev HQ.pre6 (x:HQ):List Ent:=x.pre3++SE x.bs x.vB x.vU x.s
theorem Oc (A B C D:List Ent):((A++B)++(C++D)).Perm (A++(C++(B++D))):=by
 rw[mj]; exact (pe B C D).append_left A
theorem HQ.liftS {x:HQ} {v:β->Value} {p:β->Prop} (A:List Ent) {A':β->List Ent} {sn:β->Sto} (s:Con P f vs E (A++SE x.bs x.vB x.vU x.s) v p (λb=>A' b++SE x.bs x.vB x.vU (sn b))) (hE:∀w,E' w->HP (A++x.H) w->E w):Con P f vs E' (A++x.H) v p (λb=>A' b++(x.setS (sn b)).H) :=
 Con.pack (x.pre3++(LTs x.lt++x.q.H x.bc)) s (Oc A (SE x.bs x.vB x.vU x.s) x.pre3 (LTs x.lt++x.q.H x.bc)).symm hE id (λb hb=>⟨rfl,hb,[],by
  rw[nS]; exact Oc (A' b) (SE x.bs x.vB x.vU (sn b)) x.pre3 (LTs x.lt++x.q.H x.bc)⟩)
theorem jP {lt:List LC} {l l':LC} (h0:lt[i]?=some l) (hb:l'.b=l.b):(lt.set i l').map LC.b=lt.map LC.b:=by
 rw[m4,hb]
 exact lY (λj=>by
  rw[oC]
  split
  .rename_i e; subst e; split
   .rw[lS,h0]; rfl
   .rename_i hn; exact absurd (by simpa using (lR.1 h0).1) hn
  .rfl)
theorem HQ.liftL {x:HQ} {l:LC} {v:β->Value} {p:β->Prop} {A':β->List Ent} {ln:β->LC} (h0:x.lt[i]?=some l) (s:Con P f vs E l.H v p (λb=>A' b++(ln b).H)) (hE:∀w,E' w->HP x.H w->E w) (hb:∀b,(ln b).b=l.b):Con P f vs E' x.H v p (λb=>A' b++(x.setL i (ln b)).H) :=
 Con.pack (x.pre6++(LTs (x.lt.eraseIdx i)++x.q.H x.bc)) s (by
  have h1:x.H.Perm (x.pre6++((l.H++LTs (x.lt.eraseIdx i))++x.q.H x.bc)):=by
   show (x.pre6++(LTs x.lt++x.q.H x.bc)).Perm _
   exact ((Xt h0).append_right (x.q.H x.bc)).append_left x.pre6
  refine h1.trans ?_
  have h2:=pe x.pre6 l.H (LTs (x.lt.eraseIdx i)++x.q.H x.bc)
  rw[<-mj l.H] at h2
  exact h2) hE id (λb hp=>⟨rfl,hp,[],by
  rw[nS]
  have hlt:=(lR.1 h0).1
  have h2:(x.setL i (ln b)).H=x.pre6++(LTs (x.lt.set i (ln b))++x.q.H x.bc):=by
   show Ad x.bh 91 x.cells::AA x.vL 203 JG ((x.lt.set i (ln b)).map LC.b)::_=_
   rw[jP h0 (hb b)]
   rfl
  show ((A' b++(ln b).H)++(x.pre6++(LTs (x.lt.eraseIdx i)++x.q.H x.bc))).Perm (A' b++(x.setL i (ln b)).H)
  rw[h2]
  refine (Oc (A' b) (ln b).H x.pre6 (LTs (x.lt.eraseIdx i)++x.q.H x.bc)).trans ?_
  rw[<-mj (ln b).H]
  exact (((dQ (ln b) hlt).append_right _).append_left _).append_left _⟩)
theorem HQ.lookL {x:HQ} {l:LC} {v:β->Value} {p:β->Prop} {A':β->List Ent} (h0:x.lt[i]?=some l) (s:Con P f vs E l.H v p (λb=>A' b++l.H)) (hE:∀w,E' w->HP x.H w->E w):Con P f vs E' x.H v p (λb=>A' b++x.H):=by
 have h:=HQ.liftL (ln:=λ_=>l) h0 s hE (λ_=>rfl)
 have e:x.setL i l=x:=by
  have hs:x.lt.set i l=x.lt:=lY (λj=>by
   rw[oC]
   split
   .rename_i e; subst e; rw[lu (lR.1 h0).1,h0]
   .rfl)
  show ({x with lt:=x.lt.set i l}:HQ)=x
  rw[hs]
 rw[e] at h
 exact h
structure Hm where
 M:Mo
 s:Sto
 la:List Lt.La
 rd:List (Int×Int)
def HQ.hm (x:HQ):Hm:=⟨x.q.M,x.s,x.lt.map LC.m,x.rd⟩
namespace Hm
def pin (h:Hm) (t b:Int):Int×Hm:=((h.M.pin t b).1,{h with M:=(h.M.pin t b).2,rd:=if (h.M.pin t b).1=3 then mput b t h.rd else h.rd})
def load (h:Hm) (b:Int) (nd:Nd):Hm:={h with M:=(h.M.fill b nd).2,rd:=BP b h.rd}
def lat (h:Hm) (i:Nat):Lt.La:=h.la.getD i Lt.newL
def take (h:Hm) (i:Nat) (t:Int) (w:Bool):Hm:={h with la:=h.la.set i (Lt.takeL (h.lat i) t w)}
def leave (h:Hm) (i:Nat) (t b:Int):Hm:={h with la:=h.la.set i (Lt.dropL (h.lat i) t).2,M:=(h.M.unpin b).2}
def claim (h:Hm) (t:Int):Bool×Hm:=((h.M.claim t).1,{h with M:=(h.M.claim t).2})
def give (h:Hm) (t:Int):Hm:={h with M:=h.M.give t}
def setN (h:Hm) (b:Int) (nd:Nd):Hm:={h with M:=(h.M.setN b nd).2}
def name (h:Hm) (t b:Int) (nd:Nd):Hm:={h with M:=(h.M.name t b nd).2}
def may (h:Hm) (t:Int):Bool:=!h.la.any (λl=>decide (t∈l.q.map Prod.fst))&&h.M.may t
end Hm
theorem K0 [DecidableEq α] {a:α}:∀{l:List (α×β)},(l.map Prod.fst).Nodup->((BP a l).map Prod.fst).Nodup
 |[],h=>h
 |(x,y)::l,h=>by
  have h1:x∉l.map Prod.fst/\(l.map Prod.fst).Nodup:=nH.1 h
  simp only[BP]
  split
  .exact h1.2
  .refine nH.2 ⟨λhm=>h1.1 ?_,K0 h1.2⟩
   have key:∀{l:List (α×β)} {z:α},z∈(BP a l).map Prod.fst->z∈l.map Prod.fst:=by
    intro l
    induction l with
    |nil=>intro z hz; exact hz
    |cons p l ih =>
     intro z hz
     obtain⟨u,v⟩:=p
     simp only[BP] at hz
     split at hz
     .exact nG _ hz
     .rcases kN.1 hz with e|e
      .exact e▸ns ..
      .exact nG _ (ih e)
   exact key hm
theorem HQ.Ok.rdk {x:HQ} (h:x.Ok B) {l:List (Int×Int)} (hn:(l.map Prod.fst).Nodup):({x with rd:=l}:HQ).Ok B:=⟨h.q,h.s,h.l,h.ll,hn⟩
theorem HQ.Ok.setL {x:HQ} (h:x.Ok B) (i:Nat) {l':LC} (hC:l'.m.Ok C) (hBC:B<=C) (hC6:C<=60000):(x.setL i l').Ok C:=by
 refine⟨h.q.mono hBC hC6,h.s,λz hz=>?_,by show (x.lt.set i l').length=_; rw[nU]; exact h.ll,h.rn⟩
 rcases oV hz with e|e
 .exact (h.l z e).mono hBC
 .rw[e]; exact hC
theorem HQ.Ok.bk {x:HQ} (h:x.Ok B) {k:Nat} (hu:x.s.us[k]?=some true):∃bk,x.s.bl[k]?=some bk:=⟨_,kY (by rw[h.s.len]; exact (lR.1 hu).1)⟩
theorem HQ.lat_at {x:HQ} {l:LC} (h:x.lt[i]?=some l):x.hm.lat i=l.m:=by
 unfold Hm.lat HQ.hm
 rw[om,lS,h]; rfl
theorem HQ.hm_setL {x:HQ} {l':LC}:(x.setL i l').hm={x.hm with la:=x.hm.la.set i l'.m}:=by
 show (⟨x.q.M,x.s,(x.lt.set i l').map LC.m,x.rd⟩:Hm)=⟨x.q.M,x.s,(x.lt.map LC.m).set i l'.m,x.rd⟩
 rw[m4]
theorem HQ.Ok.latI {x:HQ} (h:x.Ok B) {b:Int} {i:Nat} (hf:x.q.M.frI b 2=some i):∃l,x.lt[i]?=some l:=by
 refine⟨_,kY ?_⟩
 rw[h.ll]
 unfold Mo.frI at hf
 split at hf
 .rename_i j hj
  split at hf
  .cases hf
   exact (lR.1 (C4 hj).choose_spec.1).1
  .cases hf
 .cases hf
theorem DI {st:Int} (h:M.frI b st=some i):M.find b=some i/\(M.at' i).st=st:=by
 unfold Mo.frI at h
 split at h
 .rename_i j hj
  split at h
  .cases h; exact⟨hj,by assumption⟩
  .cases h
 .cases h
def RK (l:List Int) (nd:Nd):Prop:=∀vb:Value,Con prog 167 [vb] (λw=>RdV w vb (AH .u8) l) [] (λs:N4=>.tuple #[.agg (⟨s,nd⟩:NV).c.toArray,.int .i64 0]) Tr (λs=>Bz ⟨s,nd⟩)
theorem Vf (w:World) {H:List Ent} {w0:World} {D:List Nat} (h:St w0 D H w) (d:Nd) (he:d.es=[]) (hk:d.kids=[]) (hp:d.piv=[]) (hm:d.msgs=[]):St w0 D (Bz ⟨n40,d⟩++H) w:=by
 have e1:Bv n40.e d.es=AA Cb 79 En.enc []:=by rw[he]; rfl
 have e2:BY n40.k d.kids=AA Cb 3 (AH .i64) []:=by rw[hk]; rfl
 have e3:CF n40.p d.piv=AA Cb 77 (Kv.enc 8) []:=by rw[hp]; rfl
 have e4:EN n40.m d.msgs=AA Cb 154 Ms.enc []:=by rw[hm]; rfl
 show St w0 D (Bv n40.e d.es::BY n40.k d.kids::CF n40.p d.piv::EN n40.m d.msgs::H) w
 rw[e1,e2,e3,e4]
 exact St.add (St.add (St.add (St.add h I (.inl ⟨none,rfl,rfl⟩)) I (.inl ⟨none,rfl,rfl⟩)) I (.inl ⟨none,rfl,rfl⟩)) I (.inl ⟨none,rfl,rfl⟩)
theorem I9:RK DH ndL:=λvb w he hh=>(Mb w he hh).mono (λe w' ⟨_,h1,_,h3⟩=>⟨n40,h1,T0,by
 have:=Vf w' h3 ndL rfl rfl rfl rfl
 rwa[nS] at this⟩)
theorem Xz {x:HQ} (h:x.Ok B) {k:Nat} (hu:x.s.us[k]?=some true) {bk:Bk} (hb:x.s.bl[k]?=some bk):Con prog 166 [ptV x.bs,.int .i64 (k:Int)] Tr x.H (λv:Value=>.tuple #[v,.int .i64 0]) Tr (λv=>AA v 5 (AH .u8) bk.l::x.H) :=
 HQ.liftS (E':=λ_=>True) (A:=[]) (A':=λv:Value=>[AA v 5 (AH .u8) bk.l]) (sn:=λ_=>x.s) (U4 h.s x.bs x.vB x.vU hu hb) (λ_ _ _=>trivial)
theorem XA {x:HQ} (h:x.Ok B):Con prog 35 [ptV x.bs] Tr x.H (λ_:Unit=>.int .i64 (x.s.left:Int)) Tr (λ_=>x.H) :=
 HQ.liftS (E':=λ_=>True) (A:=[]) (A':=λ_:Unit=>[]) (sn:=λ_=>x.s) (RI h.s x.bs x.vB x.vU) (λ_ _ _=>trivial)
theorem xis {x:HQ} (h:x.Ok B) {k:Nat} (hu:x.s.us[k]?=some true):Con prog 173 [ptV x.bh,.int .i64 (k:Int)] Tr (x.H) (λ_:Unit=>.bool true) Tr (λ_=>x.H):=by
 intro w hE hH
 obtain⟨bk,hb⟩:=h.bk hu
 refine Ey func173 I hH (Cs I (Ak I (Cs I (Mv 2 I (Lfa U91 I Z87 I (Lo isAgg87 0 I (Lm I (l_e I (Ee [] (Xz h hu hb) I call166 Tt (λv _=>Pw (St _ _ (_::HQ.H (x))) ?_))))))))))
 exact Mv 4 I (Ak I (Cs I (Mv 2 I (Ak I (Ag (Av (Ao I I (λ_ h=>⟨(),rfl,T0,h⟩))))))))
theorem dT {x:HQ} (h:x.Ok B) {k:Nat} (hu:x.s.us[k]?=some true) {bk:Bk} (hb:x.s.bl[k]?=some bk) {nd:Nd} (hd:RK bk.l nd):Con prog 117 [ptV x.bh,.int .i64 (k:Int)] Tr (x.H) (λs:N4=>.tuple #[.agg (⟨s,nd⟩:NV).c.toArray,.bool true]) Tr (λs=>Bz (⟨s,nd⟩:NV)++x.H):=by
 intro w hE hH
 refine Ey func117 I hH (Cs I (l_e I (Au I I I zeroValue135 (λbr=>Ce nv0.c I (Ak I (Cs I (Mv 2 I (Lfa U91 I Z87 I (Lo isAgg87 1 I (Lm I (l_e I (Ee [_] (Xz h hu hb) I call166 Tt (λv _=>Pw (St _ _ (_::_::HQ.H (x))) ?_)))))))))))))
 refine Mv 4 I (Ak I (Af (Cs I (Mv 2 I (Nk (Sb 19 false I (I) (Aa I (Ae (Kt (Cs I (Lm I (l_e I (EW (hd v) I I I call167 I (Hrd 1 I) (λs _=>Lm I (Mv 2 I (l_e I (Au I I I zeroValue135 (λbn=>Ce nv0.c I (l_e I (SW AU I (NV.one _) (Ak I (Cs I (Lq I (Cq ((⟨s,nd⟩:NV).c) Bx AU 0 I (I) (I)) (Mv 2 I (EM (l_e I (SW AU I (NV.one _) (Ak I (Ag (Pm [3,3,3,4,4,4,4,4,4] I ?_))))))))))))))))))))))))))))))
 exact Pm [9,9,10,9] I (BM I (AK I Bx AU (Hat 0 I) (I)) (id I) (λ_ h=>⟨s,rfl,T0,h.drop.drop.drop⟩))
theorem XB (x:Int):Con prog 195 [.int .i64 x] Tr [] (λ_:Unit=>.bool (tkB x)) Tr (λ_=>[]):=by
 intro w hE hH
 refine E0 func195 I hH (Cs I (Ak I (Cs I (Mv 3 I (CB 5 I (λh1=>?_) (λh1=>?_))))))
 .exact Mv 3 I (Ak I (Ag (Ao I I (λ_ h=>⟨(),congrArg Eb (by unfold tkB; rw[od (show 0<=x by omega)]; rfl),T0,h⟩))))
 .exact Mv 3 I (Ak I (Ag (Ao I I (λ_ h=>⟨(),congrArg Eb (by unfold tkB; rw[oc (show ¬0<=x by omega)]; rfl),T0,h⟩))))
theorem iS {x:HQ} (h:x.Ok B) (hB:B+1<=60000) (t:Int) {k:Nat} (hu:x.s.us[k]?=some true) (hk9:k<=256):Con prog 121 [ptV x.bh,.int .i64 t,.int .i64 (k:Int)] Tr (x.H) (λy:HQ=>.int .i64 (x.hm.pin t k).1) (λy=>y.bh=x.bh/\y.Ok (B+1)/\y.hm=(x.hm.pin t k).2) (λy=>y.H):=by
 intro w hE hH
 refine Ey func121 I hH (Cs I (Ak I (Af (Cs I (Mv 2 I (l_e I (Ee [] (xis h hu) I call173 Tt (λ_ _=>Pw (St _ _ (HQ.H (x))) (Lq I (Qt I) (Nk (Sb 11 false I (I) (Aa I (Ae (Kt (Cs I (Mv 2 I (Lfa U91 I Z86 I (Lo G86 0 I (Mv 2 I (l_e I (Ee [] (aN h hB t (k:Int) (KD (by omega) (by omega))) I call174 Tt ?_)))))))))))))))))))))
 rintro q ⟨hm,hk⟩
 refine Pw (St _ _ (HQ.H (x.setq q))) ?_
 refine Ak I (Af (Cs I (Mv 2 I (Nk (CB 20 I (λh3=>?_) (λh3=>?_))))))
 .exact Ah I (Cr I (Mv 2 I (Lfa U91 I sizeOf89 I (Lo isAgg89 0 I (Mv 2 I (AX (l_e I (NM (k:Int) t I I U89 Ky I I I (Nk (Cs I (Lm I (Ak I (Ag (Pm [1,1] I (Ao I I (λ_ h'=>⟨{x.setq q with rd:=mput (k:Int) t x.rd},rfl,⟨rfl,HQ.Ok.rdk hk (GX _ _ h.rn),by unfold Hm.pin HQ.hm; simp only[h3,mA,hm]⟩,h'⟩))))))))))))))))
 .exact Aa I (Ae (Kt (Cs I (Lm I (Ak I (Ag (Ao I I (λ_ h'=>⟨x.setq q,rfl,⟨rfl,hk,by unfold Hm.pin HQ.hm; simp only[h3,nz,hm]⟩,h'⟩))))))))
theorem dU {x:HQ} (h:x.Ok B) {t:Int} {k:Nat} (hu:x.s.us[k]?=some true) (hr:Co (k:Int) x.rd=some t) {bk:Bk} (hb:x.s.bl[k]?=some bk) {nd:Nd} (hd:RK bk.l nd) (hsm:nd.Sm 1000):Con prog 85 [ptV x.bh,.int .i64 t,.int .i64 (k:Int)] Tr (x.H) (λy:HQ×Value×Bool=>.tuple #[y.2.1,.bool y.2.2]) (λy=>y.1.bh=x.bh/\y.1.Ok B/\y.1.hm=x.hm.load k nd) (λy=>y.1.H):=by
 intro w hE hH
 refine Ey func85 I hH (Af ?_)
 have hd2:HQ.Ok {x with rd:=BP (k:Int) x.rd} B:=h.rdk (K0 h.rn)
 refine Cr I (Las I (Ak I (Af (Cs I (Mv 2 I (Lfa U91 I sizeOf89 I (Lo isAgg89 0 I (Lm I (Lq I (Kq (kf:=kI) (vf:=kI) (k:Int) I U89 Ky zeroValue3 I I (Hat 2 I)) (Mv 4 I (Ak I (Af (Sv' 8 (.int .i64 t) I (by rw[hr]) (Sv' 9 (.bool true) I (by rw[hr]; rfl) (Cr I (Mv 4 I ?_))))))))))))))))
 refine Mv 3 I (Nk (Sb 27 false I (by simp) (Aa I (Ae (Kt (Cs I (Mv 2 I (Lfa U91 I sizeOf89 I (Lo isAgg89 0 I (Lm I (AX (l_e I (IS (k:Int) I I U89 Ky I I (Nk (Cs I (Mv 2 I (Pm [3,3,3] I (Pm [4,4,3] I (Pw (St _ _ (HQ.H {x with rd:=BP (k:Int) x.rd})) ?_)))))))))))))))))))
 refine l_e I (Ee [] (dT (x:={x with rd:=BP (k:Int) x.rd}) hd2 hu hb hd) I call117 Tt (λs _=>Pw (St _ _ (_::_::_::_::HQ.H ({x with rd:=BP (k:Int) x.rd}))) ?_))
 refine Mv 3 I (l_e I (Au I I I zeroValue135 (λbn=>Ce nv0.c I (l_e I (SW AU I (NV.one _) (Ak I (Af (Do8 (rg 11) 158193 (λw2=>(Ad (HQ.bh ({x with rd:=BP (k:Int) x.rd})) 91 (HQ.cells ({x with rd:=BP (k:Int) x.rd}))).at w2/\(Ad bn 135 ((⟨s,nd⟩:NV).c)).at w2) I St.drawn (H2 5 0 I) (Md 2 I (Dfa U91 I Z86 I (Dq I (Al I G86 I (λ_ h=>h.1) I) (Dm I (Dq I (AQ ((⟨s,nd⟩:NV).c) I Bx AU I (λ_ h=>h.2) (I) (I)) (d_e I (Ee [_] (iQ hd2 (⟨s,nd⟩:NV) hsm (k:Int)) I call133 Tt ?_)))))))))))))))
 rintro⟨q,v⟩ ⟨hm,hk⟩
 refine Pw (St _ _ (_::_::_::_::_::_::HQ.H (({x with rd:=BP (k:Int) x.rd}:HQ).setq q))) ?_
 exact Ai (H2 6 0 I) (Md 2 I (d_t I (e_q I I (AF I I) (d_t I (e_q I I (AF I I) (AL (Kt (Ag (Av (Av (Av (Av (Av (Av (Bg (rs:=[.tmp 6,.tmp 7]) I I (λ_ h'=>⟨(HQ.setq {x with rd:=BP (k:Int) x.rd} q,v,((HQ.q x).M.fill (k:Int) nd).1.2),rfl,⟨rfl,hk,by show (⟨q.M,_,_,_⟩:Hm)=⟨_,_,_,_⟩; rw[hm]; rfl⟩,h'⟩))))))))))))))))
theorem RL {x:HQ} (h:x.Ok B) {t:Int} (ht:tkB t) {b:Int} {i:Nat} (hf:x.q.M.frI b 2=some i) {l:LC} (h0:x.lt[i]?=some l):Con prog 134 [ptV x.bh,.int .i64 t,.int .i64 b] Tr (x.H) (λ_:Unit=>ptV l.b) Tr (λ_=>x.H):=by
 intro w hE hH
 refine Ey func134 I hH (Af ?_)
 have hil:=(lR.1 h0).1
 have hlm:(x.lt.map LC.b).length=x.lt.length:=mB ..
 have hlb:(x.lt.map LC.b)[i]?=some l.b:=by rw[lS,h0]; rfl
 refine Cr I (Ak I (Af (Cs I (Lm I (l_e I (E1 (XB t) I call195 Tt (λ_ _=>Lq I (Qt I) (Lm I (Sb 10 false I (by rw[ht]; rfl) (Mv 2 I (Lfa U91 I Z86 I (Lo G86 0 I (Lm I (l_e I (Ee [] (fI h b) I call196 Tt (λ_ _=>Pw (St _ _ (HQ.H (x))) ?_))))))))))))))))
 refine Sv' 16 (.bool true) I (by rw[hf]; rfl) (Mv 2 I (Nk (Aa I (Ae (Ks (Do8 (rg 13) 1554957 (λw2=>(Ad x.bh 91 x.cells).at w2/\RdV w2 x.vL JG (x.lt.map LC.b)) I St.drawn (Hb 0 1 I) (Md 2 I (Dfa U91 I Z88 I (Dq I (Al I isAgg88 I (λ_ h=>h.1) I) (Md 2 I (Dfa U91 I Z86 I (Dq I (Al I G86 I (λ_ h=>h.1) I) (Dm I (d_e I (Ee [] (fH h b) I call194 Tt (λ_ _=>Pw (St _ _ (HQ.H (x))) ?_))))))))))))))))
 exact Sv' 28 (.int .i64 (i:Int)) I (by rw[(DI hf).1]; rfl) (Ai (Hb 0 1 I) (d_t I (e_q I I (Ar i I U88 sizeOf203 I (Hrd 1 I) I I) (d_t I (e_q I I (AI i 0 I isAgg203 I I (Hrd 1 I) hlb I) (d_t I (e_q I I (AF I I) (AL (Kt (Ag (Ao I I (λ_ h=>⟨(),rfl,T0,h⟩))))))))))))
def De (m:Lt.La) (t:Int):Bool:=decide (m.wr=t)||decide (t∈m.rd)
theorem iT {l:LC} (hm:l.m.Ok n) (hn:n<=60000) (t:Int):Con prog 175 [ptV l.b,.int .i64 t] Tr l.H (λ_:Unit=>.bool (De l.m t)) Tr (λ_=>l.H):=by
 intro w hE hH
 have hql:=hm.lens
 refine Ey func175 I hH (Cs I (Ak I (Cs I (Lm I (l_e I (Ee [] (Lt.writer_spec hm hn l.b l.vR l.vQ) I call247 Tt (λ_ _=>Lm I (Mv 2 I (CB 9 I (λh1=>?_) (λh1=>?_))))))))))
 .exact Mv 5 I (Ak I (Ag (Ao I I (λ_ h=>⟨(),congrArg Eb (by unfold De; rw[od h1]; rfl),T0,h⟩))))
 .exact Lm I (l_e I (Ee [] (Lt.readers_spec hm hn l.b l.vR l.vQ) I call248 Tt (λv _=>Lm I (l_e I (E1 (Lt.contains_spec l.m.rd t (by omega)) I call105 (Hrd 0 I) (λ_ _=>Lq I (Qz I) (Ak I (Ag (Av (Ao I I (λ_ h=>⟨(),congrArg Eb (by unfold De; rw[oc h1]; rfl),T0,h⟩)))))))))))
theorem jQ {x:HQ} (h:x.Ok B) {i:Nat} {l:LC} (h0:x.lt[i]?=some l) (t:Int):Con prog 175 [ptV l.b,.int .i64 t] Tr x.H (λ_:Unit=>.bool (De l.m t)) Tr (λ_=>x.H) :=
 HQ.lookL (A':=λ_:Unit=>[]) h0 (iT (h.l l (mQ h0)) h.b9 t) (λ_ _ _=>trivial)
theorem aQ {x:HQ} (h:x.Ok B) {i:Nat} {l:LC} (h0:x.lt[i]?=some l):Con prog 247 [ptV l.b] Tr x.H (λ_:Unit=>.int .i64 l.m.wr) Tr (λ_=>x.H) :=
 HQ.lookL (A':=λ_:Unit=>[]) h0 (Lt.writer_spec (h.l l (mQ h0)) h.b9 l.b l.vR l.vQ) (λ_ _ _=>trivial)
theorem fJ {x:HQ} (h:x.Ok B) {i:Nat} {l:LC} (h0:x.lt[i]?=some l) (t:Int) (wr:Bool):Con prog 135 [ptV l.b,.int .i64 t,.bool wr] Tr x.H (λ_:Value×Value=>.bool (Lt.tryB l.m t wr)) Tr (λv=>(x.setL i ⟨l.b,v.1,v.2,Lt.takeL l.m t wr⟩).H) :=
 HQ.liftL (A':=λ_:Value×Value=>[]) (ln:=λv=>⟨l.b,v.1,v.2,Lt.takeL l.m t wr⟩) h0 (Lt.take_spec (h.l l (mQ h0)) h.b9 l.b l.vR l.vQ t wr) (λ_ _ _=>trivial) (λ_=>rfl)
theorem fK {x:HQ} (h:x.Ok B) {i:Nat} {l:LC} (h0:x.lt[i]?=some l) (t:Int):Con prog 176 [ptV l.b,.int .i64 t] Tr x.H (λv:Value×Value×Value=>v.1) Tr (λv=>AA v.1 3 (AH .i64) (Lt.dropL l.m t).1::(x.setL i ⟨l.b,v.2.1,v.2.2,(Lt.dropL l.m t).2⟩).H) :=
 HQ.liftL (A':=λv:Value×Value×Value=>[AA v.1 3 (AH .i64) (Lt.dropL l.m t).1]) (ln:=λv=>⟨l.b,v.2.1,v.2.2,(Lt.dropL l.m t).2⟩) h0 (Lt.drop_spec (h.l l (mQ h0)) h.b9 l.b l.vR l.vQ t) (λ_ _ _=>trivial) (λ_=>rfl)
theorem aR {x:HQ} (h:x.Ok B) {i:Nat} {l:LC} (h0:x.lt[i]?=some l):Con prog 130 [ptV l.b] Tr x.H (λv:Value=>v) Tr (λv=>AA v 241 Lt.encW l.m.q::x.H) :=
 HQ.lookL (A':=λv:Value=>[AA v 241 Lt.encW l.m.q]) h0 (Lt.queue_spec (h.l l (mQ h0)) h.b9 l.b l.vR l.vQ) (λ_ _ _=>trivial)
theorem xtk {x:HQ} (h:x.Ok B) {t:Int} (ht:tkB t) {b:Int} {i:Nat} (hf:x.q.M.frI b 2=some i) (hB:B+1<=60000) (wr:Bool):Con prog 86 [ptV x.bh,.int .i64 t,.int .i64 b,.bool wr] Tr (x.H) (λy:HQ×Bool=>.bool y.2) (λy=>y.1.bh=x.bh/\y.1.Ok (B+1)/\y.1.hm=x.hm.take i t wr) (λy=>y.1.H):=by
 intro w hE hH
 obtain⟨l,h0⟩:=h.latI hf
 refine Ey func86 I hH (Cs I (Ak I (Cs I (Mv 3 I (l_e I (Ee [] (RL h ht hf h0) I call134 Tt (λ_ _=>Pw (St _ _ (HQ.H (x))) (Ak I (Cs I (Lm I (Lq I (D2 I underlying203 I I) (Lm I (Sb 16 true I (by simp) (Mv 3 I (l_e I (Ee [] (fJ h h0 t wr) I call135 Tt (λv _=>Pw (St _ _ (HQ.H ((x.setL i ⟨l.b,v.1,v.2,Lt.takeL l.m t wr⟩)))) ?_)))))))))))))))))
 exact Lq I (Qy I) (Ak I (Ag (Ao I I (λ_ hh=>⟨((x.setL i ⟨l.b,v.1,v.2,Lt.takeL l.m t wr⟩),Lt.tryB l.m t wr),rfl,⟨rfl,h.setL i (C:=B+1) (Lt.take_ok (h.l l (mQ h0)) t wr) (oS B) hB,by rw[HQ.hm_setL]; unfold Hm.take; rw[HQ.lat_at h0]⟩,hh⟩))))
theorem RM {x:HQ} (h:x.Ok B) {t:Int} (ht:tkB t) {b:Int} {i:Nat} (hf:x.q.M.frI b 2=some i) (hh:De (x.hm.lat i) t):Con prog 122 [ptV x.bh,.int .i64 t,.int .i64 b] Tr (x.H) (λy:HQ×Value=>y.2) (λy=>y.1.bh=x.bh/\y.1.Ok B/\y.1.hm=x.hm.leave i t b) (λy=>y.1.H):=by
 intro w hE hH
 obtain⟨l,h0⟩:=h.latI hf
 have hlh:De l.m t=true:=by rw[<-HQ.lat_at h0]; exact hh
 refine Ey func122 I hH (Cs I (Ak I (Cs I (Mv 3 I (l_e I (Ee [] (RL h ht hf h0) I call134 Tt (λ_ _=>Pw (St _ _ (HQ.H (x))) (Ak I (Af (Cs I (Lm I (Lq I (DS I underlying203 I I) (Lm I (Sb 15 false I (by simp) (Mv 2 I (l_e I (Ee [] (jQ h h0 t) I call175 Tt (λ_ _=>Pw (St _ _ (HQ.H (x))) ?_))))))))))))))))))
 refine Sv' 18 (.bool true) I (by rw[hlh]) (Mv 2 I (Nk (Aa I (Ae (Kt (Cs I (Mv 2 I (l_e I (Ee [] (fK h h0 t) I call176 Tt (λv _=>Pw (St _ _ (_::HQ.H ((x.setL i ⟨l.b,v.2.1,v.2.2,(Lt.dropL l.m t).2⟩)))) ?_))))))))))
 have hd:HQ.Ok (x.setL i ⟨l.b,v.2.1,v.2.2,(Lt.dropL l.m t).2⟩) B:=h.setL i (Lt.drop_ok (h.l l (mQ h0)) t) (lJ B) h.b9
 refine Ak I (Cs I (Mv 2 I (Lfa U91 I Z86 I (Lo G86 1 I (Lm I (l_e I (Ee [_] (fG hd b) I call177 Tt ?_)))))))
 rintro q ⟨hm,hk⟩
 refine Pw (St _ _ (_::HQ.H ((x.setL i ⟨l.b,v.2.1,v.2.2,(Lt.dropL l.m t).2⟩).setq q))) ?_
 exact Nk (Cs I (Lm I (Ak I (Ag (Av (Ao I I (λ_ hh=>⟨((x.setL i ⟨l.b,v.2.1,v.2.2,(Lt.dropL l.m t).2⟩).setq q,v.1),rfl,⟨rfl,hk,by show (⟨q.M,x.s,(x.lt.set i _).map LC.m,x.rd⟩:Hm)=⟨_,_,_,_⟩; rw[hm,m4,HQ.lat_at h0]; rfl⟩,hh⟩)))))))
def bkL:Bk:=⟨DH,KX⟩
def Sto.al (s:Sto):Nat->List Nat×Sto
 |0=>([],s)
 |n+1=>match (s.al n).2.fr with
  |some k=>((s.al n).1++[k],((s.al n).2.alloc k).put k bkL)
  |none=>s.al n
theorem aS {s:Sto} (h:(s.al n).2.fr=some k):s.al (n+1)=((s.al n).1++[k],((s.al n).2.alloc k).put k bkL):=by
 show (match (s.al n).2.fr with|some k=>_|none=>_)=_
 rw[h]
theorem Sto.Ok.alloc {s:Sto} (h:s.Ok) (k:Nat):(s.alloc k).Ok:=⟨by show (s.bl.set k _).length=(s.us.set k _).length; rw[nU,nU]; exact h.len,by show 1<=(s.us.set k _).length; rw[nU]; exact h.n1,by show (s.us.set k _).length<=256; rw[nU]; exact h.n256⟩
theorem Sto.Ok.put {s:Sto} (h:s.Ok) (k:Nat) (b:Bk):(s.put k b).Ok:=⟨by show (s.bl.set k _).length=s.us.length; rw[nU]; exact h.len,h.n1,h.n256⟩
theorem XC {s:Sto} (h:s.Ok):∀n,(s.al n).2.Ok
 |0=>h
 |n+1=>by
  show (match (s.al n).2.fr with|some k=>_|none=>_:List Nat×Sto).2.Ok
  split
  .exact ((XC h n).alloc _).put _ _
  .exact XC h n
theorem XD (s:Sto):∀n,(s.al n).1.length<=n
 |0=>lJ _
 |n+1=>by
  have:=XD s n
  show (match (s.al n).2.fr with|some k=>_|none=>_:List Nat×Sto).1.length<=_
  split
  .simp; omega
  .omega
theorem iU {s:Sto} (h:s.fr=some k):k<s.us.length/\s.us[k]?=some false:=by
 obtain⟨y,hy,hp,_⟩:=C4 h
 refine⟨(lR.1 hy).1,?_⟩
 cases y with
 |true=>cases hp
 |false=>exact hy
def nI2 (l:List Nat):List Int:=l.map (λk:Nat=>(k:Int))
theorem HQ.Ok.setS {x:HQ} (h:x.Ok B) {s:Sto} (hs:s.Ok):(x.setS s).Ok B:=⟨h.q,hs,h.l,h.ll,h.rn⟩
theorem Con.map {H:List Ent} {u:Value} {p:β->Prop} {p':γ->Prop} {HB:γ->List Ent} (g:β->γ) (s:Con P f vs E H (λ_:β=>u) p (λb=>HB (g b))) (hg:∀b,p b->p' (g b)):Con P f vs E H (λ_:γ=>u) p' HB:=λw he hh=>(s w he hh).mono (λe w' ⟨b,h1,h2,h3⟩=>⟨g b,h1,hg b h2,h3⟩)
theorem To (h:M.frI b 2=some i):M.node b=((M.at' i).nd,true):=by
 unfold Mo.node Mo.ready; rw[h]
theorem aW (nd:Nd) (h:M.frI b 2=some i):(M.setN b nd).1=true:=by
 unfold Mo.setN Mo.ready; rw[h]
theorem XE (h:M.frI b 2=none):M.node b=(nd0,false):=by
 unfold Mo.node Mo.ready; rw[h]
theorem take_not {p:α->Prop} {l:List α} {y:α} (h:∀z∈l.take k,¬p z) (hy:l[k]?=some y) (hn:¬p y):∀z∈l.take (k+1),¬p z:=λz hz=>by
 rw[nT,hy] at hz
 rcases mT.1 hz with hz|hz
 .exact h z hz
 .simp at hz; subst hz; exact hn
theorem fL {x:HQ} (h:x.Ok B) {t:Int} (ht:tkB t) {b:Int} {i:Nat} (hf:x.q.M.frI b 2=some i) {nv:NV} (hwr:(x.hm.lat i).wr=t) (hft:FN nv.d) (hsm:nv.d.Sm 1000):Con prog 204 [ptV x.bh,.int .i64 t,.int .i64 b,.agg nv.c.toArray] Tr ((Bz nv++x.H)) (λy:HQ=>.bool true) (λy=>y.bh=x.bh/\y.Ok B/\y.hm=x.hm.setN b nv.d) (λy=>Bz nv++y.H):=by
 intro w hE hH
 obtain⟨l,h0⟩:=h.latI hf
 have hwr2:l.m.wr=t:=by rw[<-HQ.lat_at h0]; exact hwr
 refine Ey func204 I hH (Cs I (l_e I (AT I I I I (λbn=>Ce nv.c I (Ak I (Cs I (Mv 3 I (l_e I (Ee [_,_,_,_,_] (RL h ht hf h0) I call134 Tt (λ_ _=>Pw (St _ _ (_::_::_::_::_::HQ.H (x))) (Ak I (Af (Do8 [0,1,2,3,5,4,6,7,8,9,10,11,12,13,14,15,16,17,18,19,20,21] 30218857434 (λw2=>(Ad (HQ.bh (x)) 91 (HQ.cells (x))).at w2/\(Ad bn 135 (nv.c)).at w2) I St.drawn (H2 5 0 I) (Dm I (Dq I (D2 I underlying203 I I) (Dm I (Sb 16 true I (by first|(simp; done)|(simp only[mS]; exact hwr2)) (Md 2 I (d_e I (Ee [_,_,_,_,_] (aQ h h0) I call247 Tt (λ_ _=>Pw (St _ _ (_::_::_::_::_::HQ.H (x))) ?_)))))))))))))))))))))
 refine Ai (H2 5 0 I) (Md 3 I (Sb 22 true I (by first|(simp; done)|(simp only[mS]; exact hwr2)) (Dq I (AQ (nv.c) I Bx AU I (λ_ h=>h.2) (I) (I)) (d_e I (E1 (KW nv (hsm.mono (by decide))) I call216 (λ_ h=>⟨h.rd 1 rfl,h.rd 2 rfl,h.rd 3 rfl,h.rd 4 rfl⟩) (λ_ _=>Sv' 24 (.bool true) I (by rw[hft]) (Ai (H2 5 0 I) (Md 4 I (Dfa U91 I Z86 I (Dq I (Al I G86 I (λ_ h=>h.1) I) (Dm I (Dq I (AQ (nv.c) I Bx AU I (λ_ h=>h.2) (I) (I)) (d_t I (Ee [_] (I8 h nv hsm b) I call261 Tt ?_))))))))))))))
 rintro q ⟨hm,hk⟩
 refine Pw (St _ _ (_::_::_::_::_::HQ.H (x.setq q))) ?_
 exact d_t I (e_q I I (Qy I) (d_t I (e_q I I (AF I I) (AL (Kt (Ag (Av (Ao I I (λ_ h'=>⟨x.setq q,by simp only[aW nv.d hf],⟨rfl,hk,by show (⟨q.M,_,_,_⟩:Hm)=⟨_,_,_,_⟩; rw[hm]; rfl⟩,h'⟩)))))))))
theorem dV {x:HQ} (h:x.Ok B) (t:Int) {k:Nat} (hu:x.s.us[k]?=some true) {nv:NV} (hft:FN nv.d) (hsm:nv.d.Sm 1000):Con prog 211 [ptV x.bh,.int .i64 t,.int .i64 (k:Int),.agg nv.c.toArray] Tr ((Bz nv++x.H)) (λy:HQ=>.bool (x.hm.M.name t k nv.d).1) (λy=>y.bh=x.bh/\y.Ok B/\y.hm=x.hm.name t k nv.d) (λy=>Bz nv++y.H):=by
 intro w hE hH
 refine Ey func211 I hH (Cs I (l_e I (AT I I I I (λbn=>Ce nv.c I (Ak I (Af (Do8 (rg 18) 373071834 (λw2=>(Ad (HQ.bh (x)) 91 (HQ.cells (x))).at w2/\(Ad bn 135 (nv.c)).at w2) I St.drawn (H2 5 0 I) (Md 2 I (d_e I (Ee [_,_,_,_,_] (xis h hu) I call173 Tt (λ_ _=>Pw (St _ _ (_::_::_::_::_::HQ.H (x))) ?_)))))))))))
 refine Ai (H2 5 0 I) (Dm I (Dq I (AQ (nv.c) I Bx AU I (λ_ h=>h.2) (I) (I)) (d_e I (E1 (KW nv (hsm.mono (by decide))) I call216 (λ_ h=>⟨h.rd 1 rfl,h.rd 2 rfl,h.rd 3 rfl,h.rd 4 rfl⟩) (λ_ _=>Sv' 14 (.bool true) I (by rw[hft]) (Ai (H2 5 0 I) (Md 4 I (Dfa U91 I Z86 I (Dq I (Al I G86 I (λ_ h=>h.1) I) (Md 2 I (Dq I (AQ (nv.c) I Bx AU I (λ_ h=>h.2) (I) (I)) (d_t I (Ee [_] (P4 h nv hsm t (k:Int)) I call268 Tt ?_)))))))))))))
 rintro q ⟨hm,hk⟩
 refine Pw (St _ _ (_::_::_::_::_::HQ.H (x.setq q))) ?_
 exact d_t I (e_q I I (Qy I) (d_t I (e_q I I (AF I I) (AL (Kt (Ag (Av (Ao I I (λ_ h'=>⟨x.setq q,rfl,⟨rfl,hk,by show (⟨q.M,_,_,_⟩:Hm)=⟨_,_,_,_⟩; rw[hm]; rfl⟩,h'⟩)))))))))
theorem dW {x:HQ} (h:x.Ok B) {b:Int} {i:Nat} (hf:x.q.M.frI b 2=some i):Con prog 71 [ptV x.bh,.int .i64 b] Tr (x.H) (λs:N4=>.tuple #[.agg (⟨s,(x.q.M.at' i).nd⟩:NV).c.toArray,.bool true]) Tr (λs=>Bz (⟨s,(x.q.M.at' i).nd⟩:NV)++x.H):=by
 intro w hE hH
 refine Ey func71 I hH (Cs I (l_e I (Au I I I zeroValue135 (λbr=>Ce nv0.c I (Ak I (Af (Cs I (Mv 2 I (Lfa U91 I Z86 I (Lo G86 1 I (Lm I (l_e I (Ee [_] (Xy h b) I call116 Tt (λs _=>Pw (St _ _ (_::_::_::_::_::HQ.H (x))) ?_))))))))))))))
 have hn0:=To hf
 refine Sv' 14 (.tuple #[.agg (⟨s,(x.q.M.at' i).nd⟩:NV).c.toArray,.bool true]) I (by rw[hn0]) ?_
 rw[hn0]
 refine Mv 3 I (l_e I (Au I I I zeroValue135 (λbn=>Ce nv0.c I (l_e I (SW AU I (NV.one _) (Ak I (Cs I (Lm I (Nk (Ah I (Cs I (Lq I (Cq ((⟨s,(x.q.M.at' i).nd⟩:NV).c) Bx AU 0 I (I) (I)) (AM (l_e I (SW AU I (NV.one _) (Ak I (Ag (Ac (Pm [6,6,6,6,6,6] I ?_)))))))))))))))))))
 exact Pm [7,6,6,6,6,6] I (Av (BM I (AK I Bx AU (Hat 0 I) (I)) (id I) (λ_ hh=>⟨s,rfl,T0,hh.drop⟩)))
theorem fM {x:HQ} (h:x.Ok B) {k:Nat} (hu:x.s.us[k]?=some true) (hf:x.q.M.frI (k:Int) 2=none) {bk:Bk} (hb:x.s.bl[k]?=some bk) {nd:Nd} (hd:RK bk.l nd):Con prog 71 [ptV x.bh,.int .i64 (k:Int)] Tr (x.H) (λs:N4=>.tuple #[.agg (⟨s,nd⟩:NV).c.toArray,.bool true]) Tr (λs=>Bz (⟨s,nd⟩:NV)++x.H):=by
 intro w hE hH
 refine Ey func71 I hH (Cs I (l_e I (Au I I I zeroValue135 (λbr=>Ce nv0.c I (Ak I (Af (Cs I (Mv 2 I (Lfa U91 I Z86 I (Lo G86 1 I (Lm I (l_e I (Ee [_] (Xy h k) I call116 Tt (λs0 _=>Pw (St _ _ (_::_::_::_::_::HQ.H (x))) ?_))))))))))))))
 have hn0:=XE hf
 refine Sv' 14 (.tuple #[.agg (⟨s0,nd0⟩:NV).c.toArray,.bool false]) I (by rw[hn0]) ?_
 rw[hn0]
 refine Mv 3 I (l_e I (Au I I I zeroValue135 (λbn=>Ce nv0.c I (l_e I (SW AU I (NV.one _) (Ak I (Cs I (Lm I (Nk (Aa I (Ae (Kt (Cs I (Mv 2 I (Pm [2,2,2,2,2,2,2,2,2,2] I (Pm [10,10] I (l_e I (Ee [_,_,_,_,_,_] (dT h hu hb hd) I call117 Tt (λs _=>Pw (St _ _ (_::_::_::_::_::_::_::_::_::_::HQ.H (x))) ?_)))))))))))))))))))
 exact Mv 2 I (AM (l_e I (SW AU I (NV.one _) (Ak I (Ag (AM (Av (AM (Av (AM (Av (AM (Av (AM (Av (BM I (AK I Bx AU (Hat 0 I) (I)) (id I) (λ_ hh=>⟨s,rfl,T0,hh.drop⟩)))))))))))))))))
theorem aX {x:HQ} (hs:x.s.Ok) {k:Nat} {bk nb:Bk} {vb:Value} (h0:x.s.us[k]?=some true) (hb:x.s.bl[k]?=some bk):Con prog 146 [ptV x.bs,.int .i64 (k:Int),vb] Tr (AA vb 5 (AH .u8) nb.l::x.H) (λ_:Unit=>.int .i64 0) Tr (λ_=>AA vb 5 (AH .u8) nb.l::(x.setS (x.s.put k nb)).H) :=
 HQ.liftS (E':=λ_=>True) (A:=[AA vb 5 (AH .u8) nb.l]) (A':=λ_:Unit=>[AA vb 5 (AH .u8) nb.l]) (sn:=λ_=>x.s.put k nb) (RG hs x.bs x.vB x.vU (vb:=vb) (k:=k) nb h0 hb) (λ_ _ _=>trivial)
theorem Tp {x:HQ} (hs:x.s.Ok) {k:Nat} (hf:x.s.fr=some k):Con prog 103 [ptV x.bs] Tr x.H (λ_:Unit=>.tuple #[.int .i64 (k:Int),.int .i64 0]) Tr (λ_=>(x.setS (x.s.alloc k)).H):=by
 have h:=PT hs x.bs x.vB x.vU
 rw[hf] at h
 exact HQ.liftS (E':=λ_=>True) (A:=[]) (A':=λ_:Unit=>[]) (sn:=λ_=>x.s.alloc k) h (λ_ _ _=>trivial)
theorem GG {x:HQ} (h:x.Ok B) {b:Int} {i:Nat} (hf:x.q.M.frI b 2=some i):Con prog 116 [ptV x.bc,.int .i64 b] Tr x.H (λs:N4=>.tuple #[.agg (⟨s,(x.q.M.at' i).nd⟩:NV).c.toArray,.bool true]) Tr (λs=>Bz ⟨s,(x.q.M.at' i).nd⟩++x.H):=by
 have h0:=Xy h b
 rw[To hf] at h0
 exact h0
theorem fN {x:HQ} (h:x.Ok B) (hB:B+1<=60000) (t:Int):Con prog 207 [ptV x.bc,.int .i64 t] Tr x.H (λ_:HQ=>.bool (x.hm.claim t).1) (λy=>y.bh=x.bh/\y.bc=x.bc/\y.Ok (B+1)/\y.hm=(x.hm.claim t).2) (λy=>y.H) :=
 Con.map (λq=>x.setq q) (fF h hB t) (λq hq=>⟨rfl,rfl,hq.2,by show (⟨q.M,_,_,_⟩:Hm)=⟨_,_,_,_⟩; rw[hq.1]; rfl⟩)
theorem XF {x:HQ} (hs:x.s.Ok) {k:Nat} (hu:x.s.us[k]?=some true) {bk:Bk} (hb:x.s.bl[k]?=some bk):Con prog 90 [ptV x.bh,.int .i64 (k:Int),.agg nvL.c.toArray] Tr (x.H) (λ_:Unit=>.tuple #[]) Tr (λ_=>(x.setS (x.s.put k bkL)).H):=by
 intro w hE hH
 refine Ey func90 I hH (Cs I (l_e I (AT I I I I (λbn=>Ce nvL.c I (Nk (Cs I (Lq I (Cq (nvL.c) Bx AU 0 I (I) (I)) (l_e I (AZ (Hg) I I I call145 I Tt (λvy _=>Lm I (Mv 3 I (Ak I (Cs I (Mv 2 I (Nk (Sb 14 true I (I) (Ah I (Cr I (Mv 2 I (Lfa U91 I Z87 I (Lo isAgg87 2 I (Mv 2 I (Pm [2,2,2,2,2,2] I ?_)))))))))))))))))))))))
 refine Pm [7,6] I (l_e I (Ee [_] (aX (nb:=bkL) hs hu hb) I call146 Tt (λ_ _=>Pw (St _ _ (_::_::HQ.H (x.setS (x.s.put k bkL)))) ?_)))
 exact AB (Bp (Av (Av (BB I (λ_ h=>⟨(),rfl,T0,h⟩)))))
theorem Vg {x:HQ} (h:x.Ok B) {t:Int} (ht:tkB t) {n:Nat} (hn1:1<=n) (hn2:n<=2) (hcl:n<=x.q.M.claims t) (hls:x.s.left<n):Con prog 208 [ptV x.bh,.int .i64 t,.int .i64 (n:Int)] Tr (x.H) (λy:HQ=>.tuple #[Cb,.bool false]) (λy=>y.bh=x.bh/\y.Ok B/\y.hm=x.hm.give t) (λy=>y.H):=by
 intro w hE hH
 refine Ey func208 I hH ?_
 refine Cs I (Las I (Ak I (Af (Cs I (Lm I (l_e I (E1 (XB t) I call195 Tt (λ_ _=>Lq I (Qt I) (Nk (Sb 13 false I (by rw[ht]; rfl) (Aa I (Ae (Ks (Cs I (Mv 3 I (Sb 16 false I (by first|decide|(simp only[mS,m5]; omega)) (Lm I (Lq I (BQ I I I) (Mv 2 I (Sb 20 false I (by first|decide|(simp only[mS,m5]; omega)) (Mv 2 I (Lfa U91 I Z86 I (Lo G86 0 I (Lm I (l_e I (Ee [] (Tn h t) I call262 Tt (λ_ _=>Pw (St _ _ (HQ.H (x))) ?_)))))))))))))))))))))))))))
 refine Mv 4 I (Sb 30 false I (by first|decide|(simp only[mS,m5]; omega)) (Mv 2 I (Lfa U91 I Z87 I (Lo isAgg87 0 I (l_e I (Ee [] (XA h) I call35 Tt (λ_ _=>Pw (St _ _ (HQ.H (x))) (Mv 3 I (Nk (Sb 38 true I (by first|decide|(simp only[mS,m5]; omega)) (Ah I (Cs I (Mv 2 I (Lfa U91 I Z86 I (Lo G86 0 I (Lm I (l_e I (Ee [] (iP h t) I call263 Tt ?_))))))))))))))))))
 rintro q ⟨hm,hk⟩
 refine Pw (St _ _ (HQ.H (x.setq q))) ?_
 exact Nk (Cs I (Las I (Ak I (Ag (Ac (Bg (rs:=[.tmp 6,.tmp 7]) I I (λ_ hh=>⟨x.setq q,rfl,⟨rfl,hk,by show (⟨q.M,_,_,_⟩:Hm)=⟨_,_,_,_⟩; rw[hm]; rfl⟩,hh⟩)))))))
end Go.Proofs.YtloldofjddbjoaaGreat
