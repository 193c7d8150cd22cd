/- Part 5 of the proof. No condition. -/
import Derived.Test.YtloldofjddbjoaaGreatQ4
set_option linter.unusedVariables false
set_option linter.unusedSimpArgs false
set_option maxHeartbeats 8000000
set_option maxRecDepth 100000
namespace Go.Proofs.YtloldofjddbjoaaGreat
open Go.Sep Go.RowKit Tryz
variable {x:HQ} {B n i nx j nb nf b off d B2:Nat} {t a0 a1 e:Int} {α β γ:Type} {l:List Ms} {v va:Value} {es:List En} {E:World->Prop} {f:FuncId} {vs:List Value} {F:Act->World->Prop} {T:TypeId} {xs:List Operand} {ts:Array TypeId} {L:Env} {H':List Ent} {hs en:Bool} {m:Hm}
theorem RN (h:x.Ok B) {t:Int} (ht:tkB t) {n:Nat} (hn1:1<=n) (hn2:n<=2) (hcl:n<=x.q.M.claims t) (hls:n<=x.s.left) (hal:∀j,j<n->∃k,(x.s.al j).2.fr=some k):Con prog 208 [ptV x.bh,.int .i64 t,.int .i64 (n:Int)] Tr (x.H) (λy:Value×HQ=>.tuple #[y.1,.bool true]) (λy=>y.2.bh=x.bh/\y.2.Ok B/\y.2.hm={x.hm with s:=(x.s.al n).2}) (λy=>AA y.1 3 (AH .i64) (nI2 (x.s.al n).1)::y.2.H):=by
 intro w hE hH
 refine Ey func208 I hH ?_
 refine Cs I (Las I (Ak I (Af (Cs I (Lm I (l_e I (E1 (XB t) I call195 Tt (λ_ _=>Lq I (Qt I) (Nk (Sb 13 false I (by rw[ht];rfl) (Aa I (Ae (Ks (Cs I (Mv 3 I (Sb 16 false I (by first|decide|(simp only[mS,m5];omega)) (Lm I (Lq I (BQ I I I) (Mv 2 I (Sb 20 false I (by first|decide|(simp only[mS,m5];omega)) (Mv 2 I (Lfa U91 I Z86 I (Lo G86 0 I (Lm I (l_e I (Ee [] (Tn h t) I call262 Tt (λ_ _=>Pw (St _ _ (HQ.H (x))) ?_)))))))))))))))))))))))))))
 refine Mv 4 I (Sb 30 false I (by first|decide|(simp only[mS,m5];omega)) (Mv 2 I (Lfa U91 I Z87 I (Lo isAgg87 0 I (l_e I (Ee [] (XA h) I call35 Tt (λ_ _=>Pw (St _ _ (HQ.H (x))) (Mv 3 I (Nk (Sb 38 false I (by first|decide|(simp only[mS,m5];omega)) (Aa I (Ae (Kt (Cs I (Ak I (Af (Cs I (Mv 2 I (Nk (row0 3 (AH .i64) none (Aj ?_)))))))))))))))))))))
 refine Cy (λ(i:Nat) (v:Value)=>[(0,ptV x.bh),(8,v),(45,.int .i64 (n:Int)),(46,.int .i64 (i:Int))]) (λ(i:Nat) (v:Value)=>St w (dom x.H) (AA v 3 (AH .i64) (nI2 (x.s.al i).1)::HQ.H (x.setS (x.s.al i).2))) (λ(i:Nat) (v:Value)=>i<=n) (λ(i:Nat) (v:Value)=>n-i) (0) (Cb) (lK _) (Si I) Ih (λi v hi=>Af ?_)
 have hso:=XC h.s i
 have hxa:HQ.Ok (x.setS (x.s.al i).2) B:=h.setS hso
 have hll:=XD x.s i
 have hnl:(nI2 (x.s.al i).1).length=(x.s.al i).1.length:=mB ..
 refine Cr I (Lq I (Ql I) (Ns (CB 47 I (λh1=>?_) (λh1=>?_))))
 .obtain⟨k,hk⟩:=hal i (by omega)
  have hsn:=aS hk
  have hkl:=iU hk
  refine Ah I (Ae (Ks (Aj (Cs I (Mv 2 I (Lfa U91 I Z87 I (Lo isAgg87 1 I (l_e I (Ee [_] (Tp (x:=(x.setS (x.s.al i).2)) hso hk) I call103 Tt (λ_ _=>Pw (St _ _ (_::HQ.H (((x.setS (x.s.al i).2).setS ((x.s.al i).2.alloc k))))) (Mv 4 I (Ak I (Cs I (Mv 2 I (Lq I (AP (nvL.c) I I (λw=>by kernel_rfl)) (l_e I ?_))))))))))))))))
  refine Ee [_] (XF (x:=((x.setS (x.s.al i).2).setS ((x.s.al i).2.alloc k))) (hso.alloc k) (k:=k) (by show ((x.s.al i).2.us.set k true)[k]?=some true;exact oU hkl.1) (bk:=Bk.zero) (by show ((x.s.al i).2.bl.set k Bk.zero)[k]?=some Bk.zero;exact oU (by rw[hso.len];exact hkl.1))) I call90 (λ_ _=>trivial) ?_
  intro _ _
  refine Pw (St _ _ (_::HQ.H ((((x.setS (x.s.al i).2).setS ((x.s.al i).2.alloc k)).setS (((x.s.al i).2.alloc k).put k bkL))))) ?_
  refine Nk (Cr I (Mv 2 I (l_e I (Ax (sz:=1) [.tmp 61] I I I I I U22 Z3 I zeroValue3 I (λb1=>AM (l_e I (Ap U22 U22 EA I (λ_ h=>AY (h.at 1 I) (AH .i64) [(k:Int)] I I) (by simp only[lp,kQ,ob];omega) (λv2=>Bt (show _=nI2 (x.s.al (i+1)).1 from by rw[hsn];simp[nI2]) (AM (Av (Las I (AB (Aw (Kt (Cr I (Lq I (Qi I) (Lm I (AB ?_))))))))))))))))))
  exact AE ((i+1,v2)) (by dsimp only;omega) (by dsimp only;omega) (Si I) (λ_ h=>by dsimp only;rw[hsn] at *;exact h)
 .have hin:i=n:=by omega
  exact Aa I (AO (Ab (Ab (Am (Kt (Cs I (Mv 2 I (Ak I (Ag (Bg (rs:=[.tmp 6,.tmp 7]) I I (λ_ hh=>⟨(v,(x.setS (x.s.al i).2)),rfl,⟨rfl,hxa,by rw[hin];rfl⟩,by rw[hin] at hh;rw[hin];exact hh⟩)))))))))))
theorem XG (y:Lt.Wt) (b:Nat) (t:Int):Con prog 131 [.agg (Lt.encW.f y).toArray,pV b] Tr [Ad b 3 [.int .i64 t]] (λ_:Unit=>.bool (decide (y.1=t))) Tr (λ_=>[Ad b 3 [.int .i64 t]]):=by
 intro w hE hH
 refine enter (n:=8) (vs:=[.agg (Lt.encW.f y).toArray,pV b]) (St w [b] [Ad b 3 [.int .i64 t]]) func131 I I I (St.init hH) ?_
 exact Cs I (l_e I (AT I I I I (λb1=>Ak I (Cs I (Lfa Un I Z3 I (Lo G3 0 I (Lo G3 1 I (Lq I (Qe I) (Ak I (Ag (Ao I I (λ_ h=>⟨(),rfl,T0,h.drop⟩))))))))))))
theorem P5 (l:List Lt.Wt) (b:Nat) (t:Int) (hn:l.length<=65536):Con prog 188 [va,.func (.func 131) #[] #[pV b]] Tr [AA va 241 Lt.encW l,Ad b 3 [.int .i64 t]] (λz:Int=>.int .i64 z) (λz=>0<=z↔∃y∈l,y.1=t) (λ_=>[AA va 241 Lt.encW l,Ad b 3 [.int .i64 t]]):=by
 intro w hE hH
 refine Ey func188 I hH (Cs I (Ak I (Af (Cs I (Lm I (Lq I (AJ I Eh I (Hrd 0 I)) (Lm I (Nk (Aj ?_)))))))))
 refine A0 (λ(k:Nat)=>[(0,va),(1,.func (.func 131) #[] #[pV b]),(7,.int .i64 (l.length:Int)),(8,.int .i64 (k:Int))]) (λ(k:Nat)=>St w (dom [AA va 241 Lt.encW l,Ad b 3 [.int .i64 t]]) [AA va 241 Lt.encW l,Ad b 3 [.int .i64 t]]) (λ(k:Nat)=>k<=l.length/\∀z∈l.take k,¬z.1=t) (λ(k:Nat)=>l.length-k) (0) ⟨lK _,by simp⟩ (Si I) Ih (λk hp=>Af ?_)
 obtain⟨hk,hx⟩:=hp
 refine Cr I (Lq I (Ql I) (Ns (CB 9 I (λhlt=>?_) (λhlt=>?_))))
 .obtain⟨y,hy⟩:=gE l k
  refine Ah I (Ae (Ks (Aj (Cs I (Lm I (Ak I (Cs I (Mv 3 I (Lq I (Ar k I Eh G6 I (Hrd 0 I) I I) (Lq I (AV k I isAgg241 G6 I I (Hrd 0 I) hy) (AM (l_e I (F1 (β:=Unit) (X':=λ_=>St w _ [Ad b 3 [.int .i64 t],AA va 241 Lt.encW l]) (v:=λ_=>.bool (decide (y.1=t))) (p:=λ_=>True) I I I I call131 I (λw2 h=>Con.frame (F:=[AA va 241 Lt.encW l]) (XG y b t) h trivial) (λ_ _=>Nk (CB 16 I (λhe=>?_) (λhe=>?_))))))))))))))))
  .exact Ah I (Cs I (Lm I (Ak I (Ag (As (Ac (Ac (As (Ac (AM (Ao I I (λ_ h=>⟨(k:Int),rfl,⟨λ_=>⟨y,mQ hy,he⟩,λ_=>Int.natCast_nonneg k⟩,h⟩))))))))))))
  .refine Aa I (Ae (Aw (Kt (Cr I (Lq I (Qi I) (Lm I (AB (AM ?_))))))))
   exact AE (k+1) (by omega) ⟨by omega,take_not hx hy he⟩ (Si I) (λ_ h=>h)
 .exact Aa I (AO (Ab (Ab (Am (Kt (Cs I (Ak I (Ag (Ao I I (λ_ h=>⟨-1,rfl,⟨λh0=>absurd h0 (by decide),fun⟨z,hz,e⟩=>absurd e (by rw[lI (by omega)] at hx;exact hx z hz)⟩,h⟩))))))))))
theorem RO (l:List Lt.Wt) (b:Nat) (t:Int) (hn:l.length<=65536):Con prog 129 [va,.func (.func 131) #[] #[pV b]] Tr [AA va 241 Lt.encW l,Ad b 3 [.int .i64 t]] (λ_:Unit=>.bool (decide (t∈l.map Prod.fst))) Tr (λ_=>[AA va 241 Lt.encW l,Ad b 3 [.int .i64 t]]):=by
 intro w hE hH
 refine Ey func129 I hH ?_
 exact Cs I (Ak I (Cs I (Mv 2 I (l_e I (GP (P5 l b t hn) I I I call188 I Tt (λz hz=>Lq I (Qg I) (Ak I (Ag (Ao I I (λ_ h=>⟨(),congrArg Eb (by rw[oE,hz];simp[lP]),T0,h⟩))))))))))
theorem XH {l:LC} (h0:x.lt[i]?=some l) {t:Int} (hc:t∈l.m.q.map Prod.fst):x.hm.may t=false:=by
 have:x.hm.la.any (λl=>decide (t∈l.q.map Prod.fst))=true:=by
  rw[nk]
  exact⟨l.m,pd (mQ h0),od hc⟩
 unfold Hm.may;rw[this];rfl
theorem aY (h:∀z∈x.lt,¬t∈z.m.q.map Prod.fst):x.hm.may t=x.q.M.may t:=by
 have:x.hm.la.any (λl=>decide (t∈l.q.map Prod.fst))=false:=by
  rw[List.any_eq_false]
  intro l hl
  obtain⟨z,hz,rfl⟩:=lP.1 (show l∈x.lt.map LC.m from hl)
  rw[oc (h z hz)];decide
 unfold Hm.may;rw[this];rfl
theorem Ha (h:x.Ok B) (t:Int):Con prog 82 [ptV x.bh,.int .i64 t] Tr (x.H) (λ_:Unit=>.bool (x.hm.may t)) Tr (λ_=>x.H):=by
 intro w hE hH
 refine Ey func82 I hH (Af ?_)
 have hll:(x.lt.map LC.b).length<=64:=by rw[mB,h.ll];exact h.q.ok.n64
 refine Cr I (l_e I (AT I I I I (λbt=>Ak I (Af (Cs I (Mv 2 I (Lfa U91 I Z88 I (Lo isAgg88 1 I (Lq I (AJ I U88 I (Hrd 2 I)) (Lm I (Nk (Aj ?_))))))))))))
 refine A0 (λ(k:Nat)=>[(0,ptV x.bh),(3,pV bt),(10,x.vL),(11,.int .i64 ((x.lt.map LC.b).length:Int)),(12,.int .i64 (k:Int))]) (λ(k:Nat)=>St w (dom x.H) (Ad bt 3 [.int .i64 t]::HQ.H x)) (λ(k:Nat)=>k<=(x.lt.map LC.b).length/\∀z∈x.lt.take k,¬t∈z.m.q.map Prod.fst) (λ(k:Nat)=>(x.lt.map LC.b).length-k) (0) ⟨lK _,by simp⟩ (Si I) Ih (λk hp=>Af ?_)
 obtain⟨hk,hx⟩:=hp
 refine Cr I (Lq I (Ql I) (Ns (CB 13 I (λhlt=>?_) (λhlt=>?_))))
 .obtain⟨l,h0⟩:∃l,x.lt[k]?=some l:=⟨_,kY (by rw[mB] at hlt;omega)⟩
  have hy:(x.lt.map LC.b)[k]?=some l.b:=by rw[lS,h0];rfl
  have hql:=(h.l l (mQ h0)).lens
  have hb9:=h.b9
  refine Ah I (Ae (Ks (Aj (Cs I (Lq I (Ar k I U88 sizeOf203 I (Hrd 2 I) I I) (Lq I (AI k 0 I isAgg203 I I (Hrd 2 I) hy I) (Ak I (Cs I (Lm I (l_e I (Ee [_] (aR h h0) I call130 Tt (λvq _=>Pw (St _ _ (_::_::HQ.H (x))) (Lq I (C3 (fn:=.func 0) (us:=#[pV bt]) 131 I (vs:=#[]) (λa k=>by simp) (λa k=>by simp[k.eval (x:=.tmp 3) rfl])) (AM (l_e I (GP (RO l.m.q bt t (by omega)) I I I call129 I Tt (λ_ _=>Nk (CB 19 I (λhc=>?_) (λhc=>?_)))))))))))))))))))
  .exact Ah I (Cs I (Ak I (Ag (As (Ac (Ac (As (Ac (Ao I I (λ_ hh=>⟨(),congrArg Eb (XH h0 hc).symm,T0,hh.drop.drop⟩))))))))))
  .refine Aa I (Ae (Aw (Kt (Cr I (Lq I (Qi I) (Lm I (AB (Av ?_))))))))
   exact AE (k+1) (by omega) ⟨by omega,take_not hx h0 hc⟩ (Si I) (λ_ h=>h)
 .have hnq:=aY (t:=t) (λl hl=>hx l (by rw[mB] at hlt hk;rw[lI (by omega)];exact hl))
  refine Aa I (AO (Ab (Ab (Am (Ks (Do8 (rg 7) 1944 (λw2=>(Ad (HQ.bh (x)) 91 (HQ.cells (x))).at w2/\(Ad bt 3 ([.int .i64 t])).at w2) I St.drawn (H2 1 0 I) (Md 2 I (Dfa U91 I Z86 I (Dq I (Al I G86 I (λ_ h=>h.1) I) (Dq I (Al I G3 I (λ_ h=>h.2) I) (d_t I (Ee [_] (iR h t) I call132 Tt (λ_ _=>Pw (St _ _ (_::HQ.H (x))) ?_)))))))))))))
  exact d_t I (e_q I I (AF I I) (AL (Kt (Ag (Ao I I (λ_ hh=>⟨(),congrArg Eb hnq.symm,T0,hh.drop⟩))))))
theorem XI (p:List Ent) (lts:List LC) (l:LC) (T:List Ent):(p++(l.H++(LTs lts++T))).Perm (p++(LTs (lts++[l])++T)):=by
 have e:LTs (lts++[l])=LTs lts++l.H:=by unfold LTs;rw[List.flatMap_append];simp
 rw[e,mj]
 exact (pe l.H (LTs lts) T).append_left p
def st0 (n:Nat):Sto:=⟨List.replicate n Bk.zero,List.replicate n false⟩
def st1 (n:Nat):Sto:=((st0 n).alloc 0).put 0 bkL
theorem fO (h:1<=n):(st0 n).fr=some 0:=by
 refine C7 (y:=false) ?_ I (λz hz=>by simp at hz)
 show (List.replicate n false)[0]?=_
 rw[mO,lu (by omega)]
theorem fP (h:1<=n) (h2:n<=256):(st0 n).Ok:=⟨by simp[st0],by simpa [st0] using h,by simpa [st0] using h2⟩
theorem aZ (h:1<=n) (h2:n<=256):((st0 n).alloc 0).Ok:=⟨by simp[st0,Sto.alloc],by simpa [st0,Sto.alloc] using h,by simpa [st0,Sto.alloc] using h2⟩
theorem fQ (h:1<=n) (h2:n<=256):(st1 n).Ok:=⟨by simp[st1,st0,Sto.alloc,Sto.put],by simpa [st1,st0,Sto.alloc,Sto.put] using h,by simpa [st1,st0,Sto.alloc,Sto.put] using h2⟩
theorem bu (h:1<=n):((st0 n).alloc 0).us[0]?=some true:=by
 show ((List.replicate n false).set 0 true)[0]?=_
 rw[oU (by rw[oy];omega)]
theorem bB (h:1<=n):((st0 n).alloc 0).bl[0]?=some Bk.zero:=by
 show ((List.replicate n Bk.zero).set 0 Bk.zero)[0]?=_
 rw[oU (by rw[oy];omega)]
def Od (nb nf:Nat):Hm:=⟨mo0 nf,st1 nb,List.replicate nf Lt.newL,[]⟩
theorem bC {bh bc bs bR:Nat} {vL vB vU:Value} {lts:List LC} {q:Q} (h1:1<=nb) (h2:nb<=256) (hl:lts.length=nf) (hn:∀l∈lts,l.m=Lt.newL) (hq:q.Ok 0) (hm:q.M=mo0 nf):(⟨bh,bc,bs,bR,vL,vB,vU,[],st1 nb,lts,q⟩:HQ).Ok 0/\(⟨bh,bc,bs,bR,vL,vB,vU,[],st1 nb,lts,q⟩:HQ).hm=Od nb nf:=by
 refine⟨⟨hq,fQ h1 h2,λl hm=>by rw[hn l hm];exact Lt.new_ok,?_,nD⟩,?_⟩
 .show lts.length=q.M.fr.length
  rw[hm,hl];exact (oy ..).symm
 .show (⟨q.M,st1 nb,lts.map LC.m,[]⟩:Hm)=_
  rw[hm,<-hl]
  have:lts.map LC.m=List.replicate lts.length Lt.newL:=List.eq_replicate_iff.2 ⟨by simp,λb hb=>by obtain⟨l,h,rfl⟩:=lP.1 hb;exact hn l h⟩
  rw[this];rfl
theorem iV (n:Nat) (h1n:1<=n) (hn:n<=64):Con prog 101 [.int .i64 (n:Int)] Tr [] (λr:Nat×Q=>.tuple #[ptV r.1,.int .i64 0]) (λr=>r.2.M=mo0 n/\r.2.Ok 0) (λr=>r.2.H r.1) :=
 Con.pack [] (new_spec n h1n hn) (oe _) (λ_ _ _=>trivial) (λr=>(r.1,(⟨r.2,mo0 n,[]⟩:Q))) (λr hp=>⟨rfl,⟨rfl,⟨hp.1,fh h1n hn,hp.2 _⟩⟩,[],P2 _⟩)
theorem jR {nb nf:Nat} (h1:1<=nb) (h2:nb<=256) (h5:5<=nf) (h6:nf<=64):Con prog 50 [.int .i64 (nb:Int),.int .i64 (nf:Int)] Tr [] (λy:HQ=>.tuple #[ptV y.bh,.int .i64 0]) (λy=>y.Ok 0/\y.hm=Od nb nf) (λy=>y.H):=by
 intro w hE hH
 refine E0 func50 I hH (Cs I (Las I (Ak I (Cs I (Lm I (l_e I (Ig [] (HA:=[]) (Xk h1 h2) I I I call100 I Tt ?_)))))))
 rintro⟨bs,vB,vU⟩ _
 refine Pw (St _ _ (SE bs vB vU (st0 nb))) ?_
 refine Mv 4 I (Ak I (Cs I (Lm I (l_e I (Ig [_,_,_] (HA:=[]) (iV nf (by omega) h6) I I I call101 I Tt ?_)))))
 rintro⟨bc,q⟩ ⟨hm,hk⟩
 dsimp only at hm hk
 refine Pw (St _ _ (_::_::_::Q.H bc q)) ?_
 refine Mv 4 I (Ak I (Af (Cs I (Mv 3 I (Sb 25 false I (I) (Mv 3 I (Nk (Sb 28 false I (I) (Aa I (Ae (Kt (Cs I (Mv 2 I (l_e I (HE kI kI I I I (λbR=>Lq I (AP ([ptV bc,ptV bs,Cb,.map (some bR)]) I I (λw=>by kernel_rfl)) (l_e I (AT I I I I (λbh=>Ce [ptV bc,ptV bs,Cb,.map (some bR)] I (Ak I (Af (Cs I (Mv 2 I (Nk (Aj (row0 203 JG none (Pm [1] I ?_)))))))))))))))))))))))))))
 refine Fp (λ(k:Nat) (v:Value) (lts:List LC)=>[(6,ptV bs),(8,ptV bc),(10,ptV bh),(34,.int .i64 (nf:Int)),(35,.int .i64 (k:Int))]) (λ(k:Nat) (v:Value) (lts:List LC)=>St w [] (Ad bh 91 [ptV bc,ptV bs,v,.map (some bR)]::AA v 203 JG (lts.map LC.b)::Dz bR kI kI []::Ad bs 161 [vB,vU]::AA vB 279 Bk.enc (st0 nb).bl::AA vU 4 FB (st0 nb).us::(LTs lts++Q.H bc q))) (λ(k:Nat) (v:Value) (lts:List LC)=>k<=nf/\lts.length=k/\∀l∈lts,l.m=Lt.newL) (λ(k:Nat) (v:Value) (lts:List LC)=>nf-k) (0) (Cb) ([]) ⟨lK _,rfl,by simp⟩ (Si I) Ih (λk v lts hp=>Af ?_)
 obtain⟨hk1,hk2,hk3⟩:=hp
 have hkl:(lts.map LC.b).length=lts.length:=mB ..
 refine Cr I (Lq I (Ql I) (Ns (CB 36 I (λhlt=>?_) (λhlt=>?_))))
 .refine Ah I (Ae (Ks (Aj (Do8 (rg 11) 173745 (λw2=>(Ad bh 91 [ptV bc,ptV bs,v,.map (some bR)]).at w2) I St.drawn (Hat 0 I) (Md 3 I (Dfa U91 I Z88 I (Dq I (Al I isAgg88 I Ih I) (d_e I (Ui Lt.new_spec I I I call102 I Tt (λbl _=>Ai (Hat 3 I) (d_e I (Ax (sz:=1) [.tmp 42] I I I I I U88 sizeOf203 I zeroValue203 I (λb2=>Ai (Hat 4 I) (EM (d_e I (Ap U88 U88 ZW I (λ_ h=>AY (h.at 1 I) JG [bl] I I) (by simp only[lp,kQ,ob];omega) (λv2=>Bt (show _=(lts++[(⟨bl,Cb,Cb,Lt.newL⟩:LC)]).map LC.b by rw[mn];rfl) (AM (Av (Ai (Hat 4 I) (d_t I (e_q I I (Bw I I) (d_t I (e_q I I (Ba I U91 I Z88 I I) (Pre.fact (λ_ h=>BW (h.at 0 I)) ?_)))))))))))))))))))))))))
  rintro⟨av,cv,hv2⟩
  refine C0 (d_t I (AG I I Z88 I I (by rw[hv2];rfl) (ng I) (Ce [ptV bc,ptV bs,v2,.map (some bR)] I (AL (Aw (Kt (Cr I (Lq I (Qi I) (Lm I (AB (Pm [0,0,3,3,3,3] I ?_)))))))))))
  exact AE ((k+1,v2,lts++[⟨bl,Cb,Cb,Lt.newL⟩])) (by dsimp only;omega) ⟨by dsimp only;omega,by simp[hk2],λl hl=>(mT.1 hl).elim (hk3 l) (λe=>by simp at e;rw[e])⟩ (Si I) (λ_ h=>h.perm (XI [_,_,_,_,_,_] lts ⟨bl,Cb,Cb,Lt.newL⟩ _))
 .have hnf:lts.length=nf:=by omega
  refine Pw (St _ _ (HQ.H (⟨bh,bc,bs,bR,v,vB,vU,[],st0 nb,lts,q⟩:HQ))) ?_
  refine Aa I (AO (Ab (Ab (Am (Kt (Cs I (Lm I (l_e I (Ee [] (Tp (x:=(⟨bh,bc,bs,bR,v,vB,vU,[],st0 nb,lts,q⟩:HQ)) (k:=0) (fP h1 h2) (fO h1)) I call103 Tt (λ_ _=>Pw (St _ _ (HQ.H (((⟨bh,bc,bs,bR,v,vB,vU,[],st0 nb,lts,q⟩:HQ).setS ((st0 nb).alloc 0))))) ?_))))))))))
  refine Mv 4 I (Ak I (Cs I (Mv 2 I (Lq I (AP (nvL.c) I I (λw=>by kernel_rfl)) (l_e I (Ee [] (XF (x:=((⟨bh,bc,bs,bR,v,vB,vU,[],st0 nb,lts,q⟩:HQ).setS ((st0 nb).alloc 0))) (k:=0) (aZ h1 h2) (bu h1) (bB h1)) I call90 Tt (λ_ _=>Pw (St _ _ (HQ.H ((((⟨bh,bc,bs,bR,v,vB,vU,[],st0 nb,lts,q⟩:HQ).setS ((st0 nb).alloc 0)).setS (st1 nb))))) ?_)))))))
  exact Nk (Cs I (Mv 2 I (Ak I (Ag (Bg (rs:=[.tmp 4,.tmp 5]) I I (λ_ h=>⟨⟨bh,bc,bs,bR,v,vB,vU,[],st1 nb,lts,q⟩,rfl,bC h1 h2 hnf hk3 hk hm,h⟩))))))
structure Rdr where
 t:Int
 k:Kv 8
 at':Int
 blk:Nat
 par:Nat
 pin:Bool
 abv:Bool
 m:Ms
 any:Bool
 v:Kv 16
 f:Bool
theorem Tq {c p q r:List α} (h:c=p++(q++r)) (hp:p.length=i) (hq:q.length=n):(c.drop i).take n=q:=by
 subst h;subst hp;subst hq
 rw[List.drop_left' rfl];exact List.take_left' rfl
theorem RP {c p q r:List α} {v:α} (h:c=p++(q++r)) (hp:p.length=i) (hv:q[j]?=some v):c[i+j]?=some v:=by
 subst h;subst hp
 rw[lx (by omega),pf,lq (lR.1 hv).1];exact hv
theorem RQ {c p q r:List α} {v:α} (h:c=p++(q++r)) (hp:p.length=i) (hj:j<q.length):c.set (i+j) v=p++(q.set j v++r):=by
 subst h;subst hp
 rw[m6 _ _ (by omega),pf,nN _ _ hj]
theorem XJ {c p q r s:List Value} (h:c=p++(q++r)) (hp:p.length=i) (hs:s.length=q.length):Sep.splice c i s=p++(s++r):=by
 subst h;exact splice_mid hp hs
namespace Rdr
def hd (w:Rdr):List Value:=.int .i64 w.t::w.k.c
def five (w:Rdr):List Value:=[.int .i64 w.at',.int .i64 (w.blk:Int),.int .i64 (w.par:Int),.bool w.pin,.bool w.abv]
def c (w:Rdr):List Value:=w.hd++(w.five++(w.m.c++([Value.bool w.any]++(w.v.c++[Value.bool w.f]))))
theorem hd_len (w:Rdr):w.hd.length=10:=by simp[hd,Kv.ko]
theorem ko (w:Rdr):w.c.length=63:=by simp[c,hd,five,Kv.ko,Ms.ko]
theorem e5 (w:Rdr):w.c=w.hd++(w.five++(w.m.c++([Value.bool w.any]++(w.v.c++[Value.bool w.f])))):=rfl
theorem em (w:Rdr):w.c=(w.hd++w.five)++(w.m.c++([Value.bool w.any]++(w.v.c++[Value.bool w.f]))):=by rw[mj];rfl
theorem ea (w:Rdr):w.c=(w.hd++w.five++w.m.c)++([Value.bool w.any]++(w.v.c++[Value.bool w.f])):=by rw[mj,mj];rfl
theorem ev (w:Rdr):w.c=(w.hd++w.five++w.m.c++[Value.bool w.any])++(w.v.c++[Value.bool w.f]):=by rw[mj,mj,mj];rfl
theorem ef (w:Rdr):w.c=(w.hd++w.five++w.m.c++[Value.bool w.any]++w.v.c)++([Value.bool w.f]++[]):=by rw[mj,mj,mj,mj,nS];rfl
theorem lm (w:Rdr):(w.hd++w.five).length=15:=by rw[lp,hd_len];rfl
theorem la (w:Rdr):(w.hd++w.five++w.m.c).length=44:=by rw[lp,lm,Ms.ko]
theorem lv (w:Rdr):(w.hd++w.five++w.m.c++[Value.bool w.any]).length=45:=by rw[lp,la];rfl
theorem lf (w:Rdr):(w.hd++w.five++w.m.c++[Value.bool w.any]++w.v.c).length=62:=by rw[lp,lv,Kv.ko]
theorem k_part (w:Rdr):(w.c.drop 1).take 9=w.k.c:=by
 show ((Value.int .i64 w.t::(w.k.c++_)).drop 1).take 9=_
 exact List.take_left' (Kv.ko _)
theorem m_part (w:Rdr):(w.c.drop 15).take 29=w.m.c:=Tq w.em w.lm (Ms.ko _)
theorem v_part (w:Rdr):(w.c.drop 45).take 17=w.v.c:=Tq w.ev w.lv (Kv.ko _)
theorem f_at (w:Rdr):w.c[62]?=some (.bool w.f):=RP (j:=0) w.ef w.lf rfl
theorem a_at (w:Rdr):w.c[44]?=some (.bool w.any):=RP (j:=0) w.ea w.la rfl
theorem mid (w:Rdr) {j:Nat} {v:Value} (h:w.five[j]?=some v):w.c[10+j]?=some v:=RP w.e5 w.hd_len h
theorem set_mid {w w':Rdr} (hr:(w'.t,w'.k,w'.m,w'.any,w'.v,w'.f)=(w.t,w.k,w.m,w.any,w.v,w.f)) (hj:j<5) (h:w.five.set j v=w'.five):w.c.set (10+j) v=w'.c:=by
 rw[RQ w.e5 w.hd_len (show j<w.five.length from hj),h]
 simp only[Prod.mk.injEq] at hr
 obtain⟨h1,h2,h3,h4,h5,h6⟩:=hr
 unfold c hd;rw[h1,h2,h3,h4,h5,h6]
theorem set_m (w:Rdr) (z:Ms):Sep.splice w.c 15 z.c=({w with m:=z}:Rdr).c:=(XJ w.em w.lm (by rw[Ms.ko,Ms.ko])).trans (em {w with m:=z}).symm
theorem set_a (w:Rdr) (b:Bool):w.c.set 44 (.bool b)=({w with any:=b}:Rdr).c:=(RQ (j:=0) w.ea w.la Nat.zero_lt_one).trans (ea {w with any:=b}).symm
theorem set_v (w:Rdr) (z:Kv 16):Sep.splice w.c 45 z.c=({w with v:=z}:Rdr).c:=(XJ w.ev w.lv (by rw[Kv.ko,Kv.ko])).trans (ev {w with v:=z}).symm
theorem set_f (w:Rdr) (b:Bool):w.c.set 62 (.bool b)=({w with f:=b}:Rdr).c:=(RQ (j:=0) w.ef w.lf Nat.zero_lt_one).trans (ef {w with f:=b}).symm
end Rdr
abbrev RDE (b:Nat) (w:Rdr):Ent:=Ad b 226 w.c
theorem MV (h:Hm) (t b:Int):(h.pin t b).1=0\/(h.pin t b).1=1\/(h.pin t b).1=2\/(h.pin t b).1=3\/(h.pin t b).1=4:=by
 show (h.M.pin t b).1=0\/_
 unfold Hm.pin Mo.pin
 dsimp only
 split
 .exact .inl I
 .split
  .split
   .exact .inr (.inl I)
   .exact .inr (.inr (.inl I))
  .split
   .exact .inr (.inr (.inr (.inr I)))
   .exact .inr (.inr (.inr (.inl I)))
section
variable {P:Program} {n:Nat} {L:Env} {X:World->Prop} {o:Oper}
theorem JH {t:TypeId} {x:Operand} {sz:Nat} (vs:List Value) (ho:o.op=.load t x) (hg:∀w,(isAgg t).run P w=.ok true w) (hz:∀w,(sizeOf t).run P w=.ok sz w) (hx:ev L x=some (.pointer (some ⟨b,off,none⟩))) (hr:∀w,X w->∃cs,(Ad b T cs).at w/\(cs.drop off).take sz=vs)
 (hl:vs.length=sz):QOp P n L X o (.agg vs.toArray):=λa w kn hX=>by
 obtain⟨cs,h,e⟩:=hr w hX
 exact AQ (X:=λw'=>w'=w) vs ho hg hz hx (λw' e=>by subst e;exact h) e hl a w kn rfl
end
section
variable {P:Program} {n:Nat} {L:Env} {X:World->Prop} {o:Oper}
theorem XK {t:TypeId} {x:Operand} (ho:o.op=.load t x) (hg:∀w,(isAgg t).run P w=.ok false w) (hx:ev L x=some (.pointer (some ⟨b,off,none⟩))) (hr:∀w,X w->∃cs,(Ad b T cs).at w/\cs[off]?=some v):QOp P n L X o v:=λa w kn hX=>by
 obtain⟨cs,h,e⟩:=hr w hX
 exact Al (X:=λw'=>w'=w) ho hg hx (λw' e=>by subst e;exact h) e a w kn rfl
end
def Rdr.gat (w:Rdr) (l:List Ms):Rdr:=if gis Ms.key l w.k=true then {w with m:=if w.any=true then mco (l.getD (Cf Ms.key l w.k) ms0) w.m else l.getD (Cf Ms.key l w.k) ms0,any:=true} else w
def Rdr.down (w:Rdr) (l:List Ms) (kid:Nat):Rdr:={w.gat l with par:=(w.gat l).blk,blk:=kid,abv:=true,pin:=false,at':=1}
def Rdr.endv (w:Rdr) (l:List En):Kv 16×Bool:=if w.any=true then Cp (AN l w.k).1 (AN l w.k).2 w.m else AN l w.k
def Rdr.fin (w:Rdr) (l:List En):Rdr:={w with v:=(w.endv l).1,f:=(w.endv l).2,at':=6,pin:=false}
def Rdr.pinned (r:Rdr) (e:Int):Rdr:=if e=1\/e=2 then {r with at':=3,pin:=true} else if e=3 then {r with at':=2,pin:=true} else r
theorem iW (h:x.Ok B) (b:Nat) (r:Rdr) (ht:tkB r.t) (hmay:x.hm.may r.t) (hat:r.at'=1) (hB:B+1<=60000) (hu:x.s.us[r.blk]?=some true) (hk9:r.blk<=256):Con prog 77 [ptV b,ptV x.bh] Tr (RDE b r::x.H) (λy:HQ=>.bool false) (λy=>y.bh=x.bh/\y.Ok (B+1)/\y.hm=(x.hm.pin r.t r.blk).2) (λy=>RDE b (r.pinned (x.hm.pin r.t r.blk).1)::y.H):=by
 intro w hE hH
 refine Ey func77 I hH (Cs I (Ak I (GR 0 I (Af (Cs I (Mv 2 I (Lfa BF I Z3 I (Lq I (Al I G3 I (Hat 0 I) (Rdr.mid _ (j:=0) I)) (Mv 2 I (Sb 10 false I (by rw[hat];rfl) (Mv 3 I (Lfa BF I Z3 I (Lo G3 0 I (l_e I (Ee [_] (Ha h r.t) I call82 Tt (λ_ _=>Pw (St _ _ (_::HQ.H (x))) ?_))))))))))))))))
 refine Sv' 16 (.bool true) I (by rw[hmay]) (Mv 2 I (Nk (Aa I (Ae (Ks (Cs I (Mv 2 I (Lfa BF I Z3 I (Lq I (Al I G3 I (Hat 0 I) (Rdr.mid _ (j:=0) I)) (Nk (Aj (Cs I (Lq I (Qe I) (Ak I (Sb 23 true I (by rw[hat];rfl) (Ah I (Af (Af (GS [(0,O),(1,O),(2,O),(3,O),(4,O),(5,O),(6,O),(7,O),(8,O),(9,W)] [9] [(_,O),(_,O),(_,O),(_,O),(_,O),(_,O),(_,O),(_,O),(_,O),(_,W)] _ (Ck (Ck (CZ (Ck (F3 DN))))) I (by kernel_rfl) (by kernel_rfl) I I I (by kernel_rfl) St.drawn Ih (Md 2 I ?_))))))))))))))))))))
 refine Dc I (Dfa BF I Z3 I (Dq I (Al I G3 I (Hat 0 I) I) (Md 2 I (Dfa BF I Z3 I (Dq I (Al I G3 I (Hat 0 I) (Rdr.mid _ (j:=1) I)) ?_)))))
 have hp3:=MV x.hm r.t r.blk
 refine d_t I (Ee [_] (iS h hB r.t hu hk9) I call121 Tt ?_)
 rintro y ⟨hbh,hk,hy⟩
 refine Pw (St _ _ (_::HQ.H (y))) ?_
 refine AL (Kt (Aj (Af (Cs I (Lq I (Qe I) (Ak I ?_))))))
 rcases hp3 with e3|e3|e3|e3|e3
 .refine Sv' 34 (.int .i64 0) I (by rw[e3]) (Sb 35 false I (by first|rfl|(rw[e3];rfl)) (Aa I (Cr I (Lq I (Qe I) (Ak I (Sb 35 false I (by first|rfl|(rw[e3];rfl)) (Aa I (Cs I (Lq I (Qe I) (Ak I (Sb 44 false I (by first|rfl|(rw[e3];rfl)) (Aa I (Ae (Aw (Kt (F2 (CA (CO (CP (Af (Ae (Kt (Cs I ?_)))))))))))))))))))))))
  exact Mv 2 I (Lfa BF I Z3 I (Lq I (Al I G3 I (Hat 0 I) (Rdr.mid _ (j:=0) I)) (Lq I (Qe I) (Ak I (Ag (CD (Ao I I (λ_ hh=>⟨y,by rw[hat];rfl,⟨hbh,hk,hy⟩,by dsimp only;rw[e3];exact hh⟩))))))))
 .refine Sv' 34 (.int .i64 1) I (by rw[e3]) (Sb 35 true I (by first|rfl|(rw[e3];rfl)) (Ah I (Ae (Kt (Ah I (Cr I (Mv 3 I (Lfa BF I Z3 I (l_e I (AG I I Z3 I I I (by rw[Rdr.ko];decide) (Ce (({r with at':=3}:Rdr)).c (Rdr.set_mid (j:=0) I (by decide) I) (Lc I (Lfa BF I Z4 I (l_e I (AG I I Z4 I I I (by rw[Rdr.ko];decide) (Ce (({({r with at':=3}:Rdr) with pin:=true}:Rdr)).c (Rdr.set_mid (j:=3) I (by decide) I) (AB (Aw (Kt (F2 (CA ?_)))))))))))))))))))))
  exact CO (CP (Af (Ae (Kt (Cs I (Mv 2 I (Lfa BF I Z3 I (Lq I (Al I G3 I (Hat 0 I) (Rdr.mid _ (j:=0) I)) (Lq I (Qe I) (Ak I (Ag (CD (Ao I I (λ_ hh=>⟨y,rfl,⟨hbh,hk,hy⟩,by dsimp only;rw[e3];exact hh⟩))))))))))))))
 .refine Sv' 34 (.int .i64 2) I (by rw[e3]) (Sb 35 false I (by first|rfl|(rw[e3];rfl)) (Aa I (Cr I (Lq I (Qe I) (Ak I (Sb 35 true I (by first|rfl|(rw[e3];rfl)) (Ah I (Cr I (Mv 3 I (Lfa BF I Z3 I (l_e I (AG I I Z3 I I I (by rw[Rdr.ko];decide) (Ce (({r with at':=3}:Rdr)).c (Rdr.set_mid (j:=0) I (by decide) I) (Lc I (Lfa BF I Z4 I (l_e I (AG I I Z4 I I I (by rw[Rdr.ko];decide) (Ce (({({r with at':=3}:Rdr) with pin:=true}:Rdr)).c (Rdr.set_mid (j:=3) I (by decide) I) (AB (Aw (Kt ?_)))))))))))))))))))))
  exact F2 (CA (CO (CP (Af (Ae (Kt (Cs I (Mv 2 I (Lfa BF I Z3 I (Lq I (Al I G3 I (Hat 0 I) (Rdr.mid _ (j:=0) I)) (Lq I (Qe I) (Ak I (Ag (CD (Ao I I (λ_ hh=>⟨y,rfl,⟨hbh,hk,hy⟩,by dsimp only;rw[e3];exact hh⟩))))))))))))))))
 .refine Sv' 34 (.int .i64 3) I (by rw[e3]) (Sb 35 false I (by first|rfl|(rw[e3];rfl)) (Aa I (Cr I (Lq I (Qe I) (Ak I (Sb 35 false I (by first|rfl|(rw[e3];rfl)) (Aa I (Cs I (Lq I (Qe I) (Ak I (Sb 44 true I (by first|rfl|(rw[e3];rfl)) (Ah I (Cr I (Mv 3 I (Lfa BF I Z3 I (l_e I (AG I I Z3 I I I (by rw[Rdr.ko];decide) (Ce (({r with at':=2}:Rdr)).c (Rdr.set_mid (j:=0) I (by decide) I) (Lc I (Lfa BF I Z4 I (l_e I ?_)))))))))))))))))))))
  refine AG I I Z4 I I I (by rw[Rdr.ko];decide) (Ce (({({r with at':=2}:Rdr) with pin:=true}:Rdr)).c (Rdr.set_mid (j:=3) I (by decide) I) (AB (Aw (Kt (F2 (CA (CO (CP (Af (Ae (Kt (Cs I (Mv 2 I (Lfa BF I Z3 I (Lq I (Al I G3 I (Hat 0 I) (Rdr.mid _ (j:=0) I)) (Lq I (Qe I) (Ak I (Ag (CD (Pm [4,4,4] I ?_))))))))))))))))))))
  exact Pm [3,3,3,3] I (Ao I I (λ_ hh=>⟨y,rfl,⟨hbh,hk,hy⟩,by dsimp only;rw[e3];exact hh⟩))
 .refine Sv' 34 (.int .i64 4) I (by rw[e3]) (Sb 35 false I (by first|rfl|(rw[e3];rfl)) (Aa I (Cr I (Lq I (Qe I) (Ak I (Sb 35 false I (by first|rfl|(rw[e3];rfl)) (Aa I (Cs I (Lq I (Qe I) (Ak I (Sb 44 false I (by first|rfl|(rw[e3];rfl)) (Aa I (Ae (Aw (Kt (F2 (CA (CO (CP (Af (Ae (Kt (Cs I ?_)))))))))))))))))))))))
  exact Mv 2 I (Lfa BF I Z3 I (Lq I (Al I G3 I (Hat 0 I) (Rdr.mid _ (j:=0) I)) (Lq I (Qe I) (Ak I (Ag (CD (Ao I I (λ_ hh=>⟨y,by rw[hat];rfl,⟨hbh,hk,hy⟩,by dsimp only;rw[e3];exact hh⟩))))))))
theorem fR (h:x.Ok B) (b:Nat) (r:Rdr) (ht:tkB r.t) (hmay:x.hm.may r.t) (hat:r.at'=2) (hu:x.s.us[r.blk]?=some true) (hr:Co (r.blk:Int) x.rd=some r.t) {bk:Bk} (hb:x.s.bl[r.blk]?=some bk) {nd:Nd} (hd:RK bk.l nd) (hsm:nd.Sm 1000):Con prog 77 [ptV b,ptV x.bh] Tr (RDE b r::x.H) (λy:HQ=>.bool false) (λy=>y.bh=x.bh/\y.Ok B/\y.hm=x.hm.load r.blk nd) (λy=>RDE b ({r with at':=3}:Rdr)::y.H):=by
 intro w hE hH
 refine Ey func77 I hH (Cs I (Ak I (GR 0 I (Af (Cs I (Mv 2 I (Lfa BF I Z3 I (Lq I (Al I G3 I (Hat 0 I) (Rdr.mid _ (j:=0) I)) (Mv 2 I (Sb 10 false I (by rw[hat];rfl) (Mv 3 I (Lfa BF I Z3 I (Lo G3 0 I (l_e I (Ee [_] (Ha h r.t) I call82 Tt (λ_ _=>Pw (St _ _ (_::HQ.H (x))) ?_))))))))))))))))
 refine Sv' 16 (.bool true) I (by rw[hmay]) (Mv 2 I (Nk (Aa I (Ae (Ks (Cs I (Mv 2 I (Lfa BF I Z3 I (Lq I (Al I G3 I (Hat 0 I) (Rdr.mid _ (j:=0) I)) (Nk (Aj (Cs I (Lq I (Qe I) (Ak I (Sb 23 false I (by rw[hat];rfl) (Aa I (Cs I (Lq I (Qe I) (Ak I (Sb 52 true I (by rw[hat];rfl) (Ah I ?_)))))))))))))))))))))
 refine Af (GS [(0,O),(1,O),(2,O),(3,O),(4,O),(5,O),(6,O),(7,O),(8,O),(9,W)] [9] [(_,O),(_,O),(_,O),(_,O),(_,O),(_,O),(_,O),(_,O),(_,O),(_,W)] _ (Ck (CZ (Ck (F3 DN)))) I (by kernel_rfl) (by kernel_rfl) I I I (by kernel_rfl) St.drawn Ih (Md 3 I (Dfa BF I Z3 I (Dq I (Al I G3 I (Hat 0 I) I) (Md 2 I (Dfa BF I Z3 I (Dq I (Al I G3 I (Hat 0 I) (Rdr.mid _ (j:=1) I)) (d_t I (Ee [_] (dU h hu hr hb hd hsm) I call85 Tt ?_)))))))))
 rintro⟨y,v,bo⟩ ⟨hbh,hk,hy⟩
 refine Pw (St _ _ (_::HQ.H (y))) ?_
 refine AL (Kt (Cs I (Mv 2 I (Lfa BF I Z3 I (l_e I (AG I I Z3 I I I (by rw[Rdr.ko];decide) (Ce (({r with at':=3}:Rdr)).c (Rdr.set_mid (j:=0) I (by decide) I) (Nk (F2 (CA (CO (CP (Af (Ae (Kt (Cs I (Mv 2 I (Lfa BF I Z3 I (Lq I (Al I G3 I (Hat 0 I) (Rdr.mid _ (j:=0) I)) (Lq I (Qe I) (Ak I ?_)))))))))))))))))))))
 exact Ag (CD (Ao I I (λ_ hh=>⟨y,rfl,⟨hbh,hk,hy⟩,hh⟩)))
theorem fS (h:x.Ok B) (b:Nat) (r:Rdr) (ht:tkB r.t) (hmay:x.hm.may r.t) (hat:r.at'=3) (hB:B+1<=60000) {i:Nat} (hf:x.q.M.frI (r.blk:Int) 2=some i):Con prog 77 [ptV b,ptV x.bh] Tr (RDE b r::x.H) (λy:HQ=>.bool false) (λy=>y.bh=x.bh/\y.Ok (B+1)/\y.hm=x.hm.take i r.t false) (λy=>RDE b (if r.abv=true then {r with at':=4} else {r with at':=5})::y.H):=by
 intro w hE hH
 refine Ey func77 I hH (Cs I (Ak I (GR 0 I (Af (Cs I (Mv 2 I (Lfa BF I Z3 I (Lq I (Al I G3 I (Hat 0 I) (Rdr.mid _ (j:=0) I)) (Mv 2 I (Sb 10 false I (by rw[hat];rfl) (Mv 3 I (Lfa BF I Z3 I (Lo G3 0 I (l_e I (Ee [_] (Ha h r.t) I call82 Tt (λ_ _=>Pw (St _ _ (_::HQ.H (x))) ?_))))))))))))))))
 refine Sv' 16 (.bool true) I (by rw[hmay]) (Mv 2 I (Nk (Aa I (Ae (Ks (Cs I (Mv 2 I (Lfa BF I Z3 I (Lq I (Al I G3 I (Hat 0 I) (Rdr.mid _ (j:=0) I)) (Nk (Aj (Cs I (Lq I (Qe I) (Ak I (Sb 23 false I (by rw[hat];rfl) (Aa I (Cs I (Lq I (Qe I) (Ak I (Sb 52 false I (by rw[hat];rfl) (Aa I ?_)))))))))))))))))))))
 refine Cs I (Lq I (Qe I) (Ak I (Sb 67 true I (by rw[hat];rfl) (Ah I (Af (GS [(0,O),(1,O),(2,O),(3,O),(4,O),(5,O),(6,O),(7,O),(8,O),(9,W)] [9] [(_,O),(_,O),(_,O),(_,O),(_,O),(_,O),(_,O),(_,O),(_,O),(_,W)] _ (Ck (CZ (Ck (F3 DN)))) I (by kernel_rfl) (by kernel_rfl) I I I (by kernel_rfl) St.drawn Ih (Md 3 I (Dfa BF I Z3 I (Dq I (Al I G3 I (Hat 0 I) I) (Md 2 I (Dfa BF I Z3 I (Dq I (Al I G3 I (Hat 0 I) (Rdr.mid _ (j:=1) I)) (d_t I (Ee [_] (xtk h ht hf hB false) I call86 Tt ?_))))))))))))))
 rintro⟨y,bo⟩ ⟨hbh,hk,hy⟩
 refine Pw (St _ _ (_::HQ.H (y))) ?_
 refine AL (Ks (Cs I (Mv 2 I (Lfa BF I Z3 I (l_e I (AG I I Z3 I I I (by rw[Rdr.ko];decide) (Ce (({r with at':=5}:Rdr)).c (Rdr.set_mid (j:=0) I (by decide) I) (Nk (Cs I (Mv 2 I (Lfa BF I Z4 I (Lq I (Al I G4 I (Hat 0 I) (Rdr.mid _ (j:=4) I)) (Nk (Pre.caseB 85 I (λhab=>?_) (λhab=>?_)))))))))))))))
 .refine Ah I (Cr I (Mv 2 I (Lfa BF I Z3 I (l_e I (AG I I Z3 I I I (by rw[Rdr.ko];decide) (Ce (({({r with at':=5}:Rdr) with at':=4}:Rdr)).c (Rdr.set_mid (j:=0) I (by decide) I) (Nk (F2 (CA (CO (CP (Af (Ae (Kt (Cs I (Mv 2 I (Lfa BF I Z3 I (Lq I (Al I G3 I (Hat 0 I) (Rdr.mid _ (j:=0) I)) (Lq I (Qe I) (Ak I (Ag ?_)))))))))))))))))))))
  exact CD (Ao I I (λ_ hh=>⟨y,rfl,⟨hbh,hk,hy⟩,by dsimp only;rw[lu hab];exact hh⟩))
 .refine Aa I (Ae (Kt (F2 (CA (CO (CP (Af (Ae (Kt (Cs I (Mv 2 I (Lfa BF I Z3 I (Lq I (Al I G3 I (Hat 0 I) (Rdr.mid _ (j:=0) I)) (Lq I (Qe I) (Ak I (Ag (CD (Pm [2,2,2,2,2] I ?_))))))))))))))))))
  exact Pm [5,5] I (Ao I I (λ_ hh=>⟨y,rfl,⟨hbh,hk,hy⟩,by dsimp only;rw[lz (by rw[hab];decide)];exact hh⟩))
theorem bD (h:x.Ok B) (b:Nat) (r:Rdr) (ht:tkB r.t) (hmay:x.hm.may r.t) (hat:r.at'=4) {i:Nat} (hf:x.q.M.frI (r.par:Int) 2=some i) (hh:De (x.hm.lat i) r.t):Con prog 77 [ptV b,ptV x.bh] Tr (RDE b r::x.H) (λy:HQ=>.bool false) (λy=>y.bh=x.bh/\y.Ok B/\y.hm=x.hm.leave i r.t r.par) (λy=>RDE b {r with at':=5,abv:=false}::y.H):=by
 intro w hE hH
 refine Ey func77 I hH (Cs I (Ak I (GR 0 I (Af (Cs I (Mv 2 I (Lfa BF I Z3 I (Lq I (Al I G3 I (Hat 0 I) (Rdr.mid _ (j:=0) I)) (Mv 2 I (Sb 10 false I (by rw[hat];rfl) (Mv 3 I (Lfa BF I Z3 I (Lo G3 0 I (l_e I (Ee [_] (Ha h r.t) I call82 Tt (λ_ _=>Pw (St _ _ (_::HQ.H (x))) ?_))))))))))))))))
 refine Sv' 16 (.bool true) I (by rw[hmay]) (Mv 2 I (Nk (Aa I (Ae (Ks (Cs I (Mv 2 I (Lfa BF I Z3 I (Lq I (Al I G3 I (Hat 0 I) (Rdr.mid _ (j:=0) I)) (Nk (Aj (Cs I (Lq I (Qe I) (Ak I (Sb 23 false I (by rw[hat];rfl) (Aa I (Cs I (Lq I (Qe I) (Ak I (Sb 52 false I (by rw[hat];rfl) (Aa I ?_)))))))))))))))))))))
 refine Cs I (Lq I (Qe I) (Ak I (Sb 67 false I (by rw[hat];rfl) (Aa I (Cs I (Lq I (Qe I) (Ak I (Sb 89 true I (by rw[hat];rfl) (Ah I (Af (GS [(0,O),(1,O),(2,O),(3,O),(4,O),(5,O),(6,O),(7,O),(8,O),(9,W)] [9] [(_,O),(_,O),(_,O),(_,O),(_,O),(_,O),(_,O),(_,O),(_,O),(_,W)] _ (Ck (CZ (Ck (F3 DN)))) I (by kernel_rfl) (by kernel_rfl) I I I (by kernel_rfl) St.drawn Ih (Md 3 I (Dfa BF I Z3 I (Dq I (Al I G3 I (Hat 0 I) I) (Md 2 I (Dfa BF I Z3 I (Dq I (Al I G3 I (Hat 0 I) (Rdr.mid _ (j:=2) I)) (d_t I (Ee [_] (RM h ht hf hh) I call122 Tt ?_)))))))))))))))))))
 rintro⟨y,v⟩ ⟨hbh,hk,hy⟩
 refine Pw (St _ _ (_::HQ.H (y))) ?_
 refine AL (Kt (Cs I (Mv 3 I (Lfa BF I Z3 I (l_e I (AG I I Z3 I I I (by rw[Rdr.ko];decide) (Ce (({r with at':=5}:Rdr)).c (Rdr.set_mid (j:=0) I (by decide) I) (Lc I (Lfa BF I Z4 I (l_e I (AG I I Z4 I I I (by rw[Rdr.ko];decide) (Ce (({({r with at':=5}:Rdr) with abv:=false}:Rdr)).c (Rdr.set_mid (j:=4) I (by decide) I) (Nk (F2 (CA (CO (CP (Af (Ae (Kt (Cs I ?_)))))))))))))))))))))
 exact Mv 2 I (Lfa BF I Z3 I (Lq I (Al I G3 I (Hat 0 I) (Rdr.mid _ (j:=0) I)) (Lq I (Qe I) (Ak I (Ag (CD (Ao I I (λ_ hh=>⟨y,rfl,⟨hbh,hk,hy⟩,hh⟩))))))))
theorem XL (l:List Ms) (k:Kv 8):(Dr l k).2=gis Ms.key l k:=by
 unfold Dr;cases h:gis Ms.key l k<;>simp
theorem XM {k:Kv 8} (h:gis Ms.key l k):(Dr l k).1=l.getD (Cf Ms.key l k) ms0:=by
 unfold Dr;rw[lu h]
theorem fT {r:Rdr} (h:gis Ms.key l r.k=false):r.gat l=r:=by unfold Rdr.gat;rw[lz (by rw[h];decide)]
theorem bE {r:Rdr} (h:gis Ms.key l r.k) (ha:r.any=false):r.gat l={r with m:=(Dr l r.k).1,any:=true}:=by
 unfold Rdr.gat;rw[lu h,lz (by rw[ha];decide),XM h]
theorem bF {r:Rdr} (h:gis Ms.key l r.k) (ha:r.any):r.gat l={r with m:=mco (Dr l r.k).1 r.m,any:=true}:=by
 unfold Rdr.gat;rw[lu h,lu ha,XM h]
theorem XN (h:x.Ok B) (b:Nat) (r:Rdr) {i:Nat} (hf:x.q.M.frI (r.blk:Int) 2=some i) (hrm:BE Ms.key (x.q.M.at' i).nd.msgs) {kid:Nat} (hkid:(x.q.M.at' i).nd.kids[ET (x.q.M.at' i).nd.piv r.k]?=some (kid:Int)):Con prog 123 [ptV b,ptV x.bh] Tr (RDE b r::x.H) (λ_:Unit=>.tuple #[]) Tr (λ_=>RDE b (r.down (x.q.M.at' i).nd.msgs kid)::x.H):=by
 intro w hE hH
 have hi9:=h.latI hf
 obtain⟨l9,hl9⟩:=hi9
 have hsm:((x.q.M.at' i).nd).Sm 1000:=h.q.ok.es _ (by unfold Mo.at';rw[om];obtain⟨z,hz,_⟩:=C4 (DI hf).1;rw[hz];exact mQ hz)
 have hkl:=(lR.1 hkid).1
 refine Ey func123 I hH (Af ?_)
 refine Dw (λ(s:N4) (bn:Nat)=>[(0,ptV b),(1,ptV x.bh),(4,pV bn),(5,.bool true)]) (λ(s:N4) (bn:Nat)=>St w (dom (RDE b r::x.H)) (Ad bn 135 (⟨s,(x.q.M.at' i).nd⟩:NV).c::(Bz (⟨s,(x.q.M.at' i).nd⟩:NV)++(RDE b r::x.H)))) (λ(s:N4) (bn:Nat)=>True) ?_ ?_
 .refine Fo (λw2=>(RDE b r).at w2/\(Ad x.bh 91 x.cells).at w2) I St.drawn (Aq 0 I (H2 0 1 I) (Bi I I) (Aq 1 I (H2 0 1 I) (Bw I I) (Aq 2 I (H2 0 1 I) (Ba I U91 I Z86 I I) (Aq 3 I (H2 0 1 I) (Al I G86 I (λ_ h=>h.2) I) (Aq 4 I (H2 0 1 I) (Bi I I) (Aq 5 I (H2 0 1 I) (Bw I I) (Aq 6 I (H2 0 1 I) (Ba I BF I Z3 I I) (Aq 7 I (H2 0 1 I) (Al I G3 I (λ_ h=>h.1) (Rdr.mid _ (j:=1) I)) (Ay2 8 12 I ?_ ?_)))))))))
  .refine Ee [_] (GG h hf) I call116 Tt (λs _=>Pw (St _ _ (_::_::_::_::_::HQ.H (x))) (Ai (H2 0 5 I) (Aq 9 I (H2 0 5 I) (Bi I I) (Aq 10 I (H2 0 5 I) (Qx I) (Aq 11 I (H2 0 5 I) (Qx I) (Ay 12 I (Au I I I zeroValue135 (λbn=>Ce nv0.c I (Ai (H2 1 6 I) (Ay 13 I (SW AU I (NV.one _) (Ai (H2 1 6 I) (Aq 14 I (H2 1 6 I) (AF I I) (An (Pm [0,1,1,1,1] I ?_)))))))))))))))
   exact Bc ((s,bn)) trivial (Si I) (λ_ h=>h)
  .refine Au I I I zeroValue135 (λbn=>Ce nv0.c I (Ai (H2 1 2 I) (Ay 8 I (Ee [_,_] (GG h hf) I call116 Tt (λs _=>Pw (St _ _ (_::_::_::_::_::_::HQ.H (x))) (Ai (H2 1 6 I) (Aq 9 I (H2 1 6 I) (Bi I I) (Aq 10 I (H2 1 6 I) (Qx I) (Aq 11 I (H2 1 6 I) (Qx I) (Ay 13 I (SW AU I (NV.one _) (Ai (H2 1 6 I) (Aq 14 I (H2 1 6 I) (AF I I) (An (Pm [0,1,1,1,1] I ?_)))))))))))))))
   exact Bc ((s,bn)) trivial (Si I) (λ_ h=>h)
 .intro s bn _
  refine Af (Af (Do8 (rg 8) 5832 (λw2=>(RDE b r).at w2/\(Ad x.bh 91 x.cells).at w2/\(Ad bn 135 ((⟨s,(x.q.M.at' i).nd⟩:NV).c)).at w2) I St.drawn (Hc 5 6 0 I) (Dfa Cu I NA I (Dq I (Al I Ra I (λ_ h=>h.2.2) I) (Md 2 I (Dfa BF I Z77 I (Dq I (AQ ((Rdr.k r).c) I G77 Z77 I (λ_ h=>h.1) (Rdr.k_part _) (Kv.ko _)) (d_t I (E1 (MP (x.q.M.at' i).nd.piv r.k (mf hsm.p (by decide))) I call178 (Hrd 3 I) (λ_ _=>d_t I (e_q I I (AF I I) (AL (Kt (Cs I (Mv 3 I (Lfa Cu I Z22 I (Lo G22 0 I (Lq I (AJ I U22 I (Hrd 2 I)) (Mv 2 I (Nk (St' 35 I (by show ((ET (x.q.M.at' i).nd.piv r.k:Nat):Int)<(((x.q.M.at' i).nd.kids.length:Nat):Int);omega) (Ah I (Af (Af ?_))))))))))))))))))))))))
  refine GQ (λ(bm:Nat)=>[(0,ptV b),(1,ptV x.bh),(4,pV bn),(5,.bool true),(6,.int .i64 ((ET (x.q.M.at' i).nd.piv r.k):Int)),(7,pV bm),(8,.bool (gis Ms.key (x.q.M.at' i).nd.msgs r.k))]) (λ(bm:Nat)=>St w (dom (RDE b r::x.H)) (Ad bm 154 ((Dr (x.q.M.at' i).nd.msgs r.k).1).c::Ad bn 135 (⟨s,(x.q.M.at' i).nd⟩:NV).c::(Bz (⟨s,(x.q.M.at' i).nd⟩:NV)++(RDE b r::x.H)))) (λ(bm:Nat)=>True) ?_ ?_
  .refine Fo (λw2=>(RDE b r).at w2/\(Ad x.bh 91 x.cells).at w2/\(Ad bn 135 ((⟨s,(x.q.M.at' i).nd⟩:NV).c)).at w2) I St.drawn (Aq 0 I (Hc 5 6 0 I) (Ba I Cu I Hs I I) (Aq 1 I (Hc 5 6 0 I) (Al I IN I (λ_ h=>h.2.2) I) (Aq 2 I (Hc 5 6 0 I) (Bi I I) (Aq 3 I (Hc 5 6 0 I) (Bw I I) (Aq 4 I (Hc 5 6 0 I) (Ba I BF I Z77 I I) (Aq 5 I (Hc 5 6 0 I) (AQ ((Rdr.k r).c) I G77 Z77 I (λ_ h=>h.1) (Rdr.k_part _) (Kv.ko _)) (Ay2 6 10 I ?_ ?_)))))))
   .refine E1 (KV (x.q.M.at' i).nd.msgs r.k hrm (mf hsm.m (by decide))) I call179 (Hrd 4 I) (λ_ _=>Ai (Hc 5 6 0 I) (Aq 7 I (Hc 5 6 0 I) (Bi I I) (Aq 8 I (Hc 5 6 0 I) (Qx I) (Aq 9 I (Hc 5 6 0 I) (Qx I) (Ay 10 I (Au I I I zeroValue154 (λbm=>Ce ms0.c I (Ai (Hc 6 7 1 I) (Ay 11 I (Az I I Bl I I (Ms.ko _) (Ms.one _) (by first|decide|(show 0+(Ms.c _).length<=(Ms.c _).length;rw[Ms.ko,Ms.ko];decide)) (Ce ((Dr (x.q.M.at' i).nd.msgs r.k).1).c (Sep.ku (by first|rfl|(show (Ms.c _).length=_;rw[Ms.ko,Ms.ko]))) (Ai (Hc 6 7 1 I) (Aq 12 I (Hc 6 7 1 I) (AF I I) (An ?_))))))))))))))
    exact Bc (bm) trivial (Sub.cons I (Sub.cons I (Sub.cons I (Sub.cons I (Sub.cons I (Sub.cons I (Sub.consE I (by rw[XL]) Sub.nil))))))) (λ_ h=>h)
   .refine Au I I I zeroValue154 (λbm=>Ce ms0.c I (Ai (Hc 6 7 1 I) (Ay 6 I (E1 (KV (x.q.M.at' i).nd.msgs r.k hrm (mf hsm.m (by decide))) I call179 (Hrd 5 I) (λ_ _=>Ai (Hc 6 7 1 I) (Aq 7 I (Hc 6 7 1 I) (Bi I I) (Aq 8 I (Hc 6 7 1 I) (Qx I) (Aq 9 I (Hc 6 7 1 I) (Qx I) (Ay 11 I (Az I I Bl I I (Ms.ko _) (Ms.one _) (by first|decide|(show 0+(Ms.c _).length<=(Ms.c _).length;rw[Ms.ko,Ms.ko];decide)) (Ce ((Dr (x.q.M.at' i).nd.msgs r.k).1).c (Sep.ku (by first|rfl|(show (Ms.c _).length=_;rw[Ms.ko,Ms.ko]))) (Ai (Hc 6 7 1 I) (Aq 12 I (Hc 6 7 1 I) (AF I I) (An ?_))))))))))))))
    exact Bc (bm) trivial (Sub.cons I (Sub.cons I (Sub.cons I (Sub.cons I (Sub.cons I (Sub.cons I (Sub.consE I (by rw[XL]) Sub.nil))))))) (λ_ h=>h)
  .intro bm _
   refine Cs I (Lm I (Nk ?_))
   refine GQ (λ(_u:Unit)=>[(0,ptV b),(1,ptV x.bh),(4,pV bn),(5,.bool true),(6,.int .i64 ((ET (x.q.M.at' i).nd.piv r.k):Int))]) (λ(_u:Unit)=>St w (dom (RDE b r::x.H)) (Ad bn 135 (⟨s,(x.q.M.at' i).nd⟩:NV).c::(Bz (⟨s,(x.q.M.at' i).nd⟩:NV)++(RDE b (Rdr.gat r (x.q.M.at' i).nd.msgs)::x.H)))) (λ(_u:Unit)=>True) ?_ ?_
   .refine Pre.caseB 46 I (λhis=>?_) (λhis=>?_)
    .refine Ah I (Af (Cs I (Mv 2 I (Lfa BF I Z4 I (Lq I (Al I G4 I (Hat 6 I) (Rdr.a_at _)) (Nk (Pre.caseB 50 I (λhan=>?_) (λhan=>?_))))))))
     .refine Ah I (Do8 (rg 7) 1944 (λw2=>(Ad bm 154 ((Dr (x.q.M.at' i).nd.msgs r.k).1).c).at w2/\(RDE b r).at w2) I St.drawn (H2 0 6 I) (Dq I (AQ ((Dr (x.q.M.at' i).nd.msgs r.k).1.c) I Cm Bl I (λ_ h=>h.1) (Br _) (Ms.ko _)) (Md 2 I (Dfa BF I Bl I (Dq I (AQ ((Rdr.m r).c) I Cm Bl I (λ_ h=>h.2) (Rdr.m_part _) (Ms.ko _)) (d_t I (E1 (He (Dr (x.q.M.at' i).nd.msgs r.k).1 r.m) I call180 Tt (λ_ _=>d_t I (Az I I Bl I I (Ms.ko _) (Ms.one _) (by first|decide|(show 0+(Ms.c _).length<=(Ms.c _).length;rw[Ms.ko,Ms.ko];decide)) (Ce ((mco (Dr (x.q.M.at' i).nd.msgs r.k).1 r.m)).c (Sep.ku (by first|rfl|(show (Ms.c _).length=_;rw[Ms.ko,Ms.ko]))) (AL (Kt (Cr I (Mv 2 I (Lq I (Cq ((mco (Dr (x.q.M.at' i).nd.msgs r.k).1 r.m).c) Cm Bl 0 I (Br _) (Ms.ko _)) (Lc I (Lfa BF I Bl I (Ed (l_e I (Az I I Bl I I (Ms.ko _) (Ms.one _) (by rw[Ms.ko,Rdr.ko];decide) (Ce (({r with m:=(mco (Dr (x.q.M.at' i).nd.msgs r.k).1 r.m)}:Rdr)).c (Rdr.set_m _ _) (Lc I (Lfa BF I Z4 I (l_e I (AG I I Z4 I I I (by rw[Rdr.ko];decide) (Ce (({({r with m:=(mco (Dr (x.q.M.at' i).nd.msgs r.k).1 r.m)}:Rdr) with any:=true}:Rdr)).c (Rdr.set_a _ _) (AB (AM (Av (IU ?_))))))))))))))))))))))))))))))
      refine Pm [2,2,2,2,2,1,1,1,1,1,1] I ?_
      exact Bc (()) trivial (Si I) (λ_ h=>by rw[bF his han];exact h)
     .refine Aa I (Ae (Kt (Cr I (Mv 2 I (Lq I (Cq ((Dr (x.q.M.at' i).nd.msgs r.k).1.c) Cm Bl 0 I (Br _) (Ms.ko _)) (Lc I (Lfa BF I Bl I (Ed (l_e I (Az I I Bl I I (Ms.ko _) (Ms.one _) (by rw[Ms.ko,Rdr.ko];decide) (Ce (({r with m:=(Dr (x.q.M.at' i).nd.msgs r.k).1}:Rdr)).c (Rdr.set_m _ _) (Lc I (Lfa BF I Z4 I (l_e I (AG I I Z4 I I I (by rw[Rdr.ko];decide) (Ce (({({r with m:=(Dr (x.q.M.at' i).nd.msgs r.k).1}:Rdr) with any:=true}:Rdr)).c (Rdr.set_a _ _) (AB (AM (Av (Pm [9,9,9] I (Pm [4,4,4,4,4,3,3,3,3] I ?_)))))))))))))))))))))
      exact Bc (()) trivial (Si I) (λ_ h=>by rw[bE his han];exact h)
    .refine Aa I (Ae (Av ?_))
     exact Bc (()) trivial (Si I) (λ_ h=>by rw[fT his];exact h)
   .intro _u _
    refine Af (Do8 [0,1,2,3,4,5,6,7,9,10,11,12,13,8,14,15,16,17,18,19,20,21,22,23,24,25,26,27,28] 66968388108117 (λw2=>(Ad bn 135 (⟨s,(x.q.M.at' i).nd⟩:NV).c).at w2/\RdV w2 s.k.v (AH .i64) (x.q.M.at' i).nd.kids) I St.drawn (Hb 0 2 I) (Md 7 I (Dfa BF I Z3 I (Dfa Cu I Z22 I (Dq I (Al I G22 I (λ_ h=>h.1) I) (Dm I (Dq I (Ar (ET (x.q.M.at' i).nd.piv r.k) I U22 Z3 I (λ_ h=>h.2) I I) (Dq I (AI (ET (x.q.M.at' i).nd.piv r.k) 0 I G3 I I (λ_ h=>h.2) hkid I) (d_e I (e_q I I (Al I G3 I (Hat 5 I) (Rdr.mid _ (j:=1) I)) (Ai (Hb 0 2 I) (Dc I (Dfa BF I Z3 I (EM (d_e I (AG I I Z3 I I I (by rw[Rdr.ko];decide) (Ce (({(Rdr.gat r (x.q.M.at' i).nd.msgs) with par:=(Rdr.gat r (x.q.M.at' i).nd.msgs).blk}:Rdr)).c (Rdr.set_mid (j:=2) I (by decide) I) ?_)))))))))))))))))
    refine Ai (Hb 1 3 I) (Dc I (Dfa BF I Z3 I (d_e I (AG I I Z3 I I I (by rw[Rdr.ko];decide) (Ce (({({(Rdr.gat r (x.q.M.at' i).nd.msgs) with par:=(Rdr.gat r (x.q.M.at' i).nd.msgs).blk}:Rdr) with blk:=kid}:Rdr)).c (Rdr.set_mid (j:=1) I (by decide) I) (Ai (Hb 1 3 I) (Dc I (Dfa BF I Z4 I (d_e I (AG I I Z4 I I I (by rw[Rdr.ko];decide) (Ce (({({({(Rdr.gat r (x.q.M.at' i).nd.msgs) with par:=(Rdr.gat r (x.q.M.at' i).nd.msgs).blk}:Rdr) with blk:=kid}:Rdr) with abv:=true}:Rdr)).c (Rdr.set_mid (j:=4) I (by decide) I) (Ai (Hb 1 3 I) (Dc I (Dfa BF I Z4 I (d_e I (AG I I Z4 I I I (by rw[Rdr.ko];decide) (Ce (({({({({(Rdr.gat r (x.q.M.at' i).nd.msgs) with par:=(Rdr.gat r (x.q.M.at' i).nd.msgs).blk}:Rdr) with blk:=kid}:Rdr) with abv:=true}:Rdr) with pin:=false}:Rdr)).c (Rdr.set_mid (j:=3) I (by decide) I) (Ai (Hb 1 3 I) (d_t I (e_q I I (Bw I I) (d_t I (e_q I I (Ba I BF I Z3 I I) (d_t I ?_)))))))))))))))))))))))
    exact AG I I Z3 I I I (by rw[Rdr.ko];decide) (Ce (({({({({({(Rdr.gat r (x.q.M.at' i).nd.msgs) with par:=(Rdr.gat r (x.q.M.at' i).nd.msgs).blk}:Rdr) with blk:=kid}:Rdr) with abv:=true}:Rdr) with pin:=false}:Rdr) with at':=1}:Rdr)).c (Rdr.set_mid (j:=0) I (by decide) I) (AL (Kt (Ag (Ac (Pm [1,1,1,1,1] I (Av (Av (Av (Av (Av (BB I (λ_ hh=>⟨(),rfl,T0,hh⟩)))))))))))))
theorem bG {r:Rdr} {l:List En} (h:r.any=false):({r with v:=(r.endv l).1,f:=(r.endv l).2}:Rdr)={({r with v:=(AN l r.k).1}:Rdr) with f:=(AN l r.k).2}:=by
 unfold Rdr.endv;rw[h];rfl
theorem XO {r:Rdr} {l:List En} (h:r.any):r.endv l=Cp (AN l r.k).1 (AN l r.k).2 r.m:=by
 unfold Rdr.endv;rw[lu h]
theorem XP (h:x.Ok B) (b:Nat) (r:Rdr) (ht:tkB r.t) {i:Nat} (hf:x.q.M.frI (r.blk:Int) 2=some i) (hke:(x.q.M.at' i).nd.kids=[]) (hri:BG (x.q.M.at' i).nd.es) (hh:De (x.hm.lat i) r.t):Con prog 123 [ptV b,ptV x.bh] Tr (RDE b r::x.H) (λ_:HQ=>.tuple #[]) (λy=>y.bh=x.bh/\y.Ok B/\y.hm=x.hm.leave i r.t r.blk) (λy=>RDE b (r.fin (x.q.M.at' i).nd.es)::y.H):=by
 intro w hE hH
 have hi9:=h.latI hf
 obtain⟨l9,hl9⟩:=hi9
 have hsm:((x.q.M.at' i).nd).Sm 1000:=h.q.ok.es _ (by unfold Mo.at';rw[om];obtain⟨z,hz,_⟩:=C4 (DI hf).1;rw[hz];exact mQ hz)
 refine Ey func123 I hH (Af ?_)
 refine Dw (λ(s:N4) (bn:Nat)=>[(0,ptV b),(1,ptV x.bh),(4,pV bn),(5,.bool true)]) (λ(s:N4) (bn:Nat)=>St w (dom (RDE b r::x.H)) (Ad bn 135 (⟨s,(x.q.M.at' i).nd⟩:NV).c::(Bz (⟨s,(x.q.M.at' i).nd⟩:NV)++(RDE b r::x.H)))) (λ(s:N4) (bn:Nat)=>True) ?_ ?_
 .refine Fo (λw2=>(RDE b r).at w2/\(Ad x.bh 91 x.cells).at w2) I St.drawn (Aq 0 I (H2 0 1 I) (Bi I I) (Aq 1 I (H2 0 1 I) (Bw I I) (Aq 2 I (H2 0 1 I) (Ba I U91 I Z86 I I) (Aq 3 I (H2 0 1 I) (Al I G86 I (λ_ h=>h.2) I) (Aq 4 I (H2 0 1 I) (Bi I I) (Aq 5 I (H2 0 1 I) (Bw I I) (Aq 6 I (H2 0 1 I) (Ba I BF I Z3 I I) (Aq 7 I (H2 0 1 I) (Al I G3 I (λ_ h=>h.1) (Rdr.mid _ (j:=1) I)) (Ay2 8 12 I ?_ ?_)))))))))
  .refine Ee [_] (GG h hf) I call116 Tt (λs _=>Pw (St _ _ (_::_::_::_::_::HQ.H (x))) (Ai (H2 0 5 I) (Aq 9 I (H2 0 5 I) (Bi I I) (Aq 10 I (H2 0 5 I) (Qx I) (Aq 11 I (H2 0 5 I) (Qx I) (Ay 12 I (Au I I I zeroValue135 (λbn=>Ce nv0.c I (Ai (H2 1 6 I) (Ay 13 I (SW AU I (NV.one _) (Ai (H2 1 6 I) (Aq 14 I (H2 1 6 I) (AF I I) (An (Pm [0,1,1,1,1] I ?_)))))))))))))))
   exact Bc ((s,bn)) trivial (Si I) (λ_ h=>h)
  .refine Au I I I zeroValue135 (λbn=>Ce nv0.c I (Ai (H2 1 2 I) (Ay 8 I (Ee [_,_] (GG h hf) I call116 Tt (λs _=>Pw (St _ _ (_::_::_::_::_::_::HQ.H (x))) (Ai (H2 1 6 I) (Aq 9 I (H2 1 6 I) (Bi I I) (Aq 10 I (H2 1 6 I) (Qx I) (Aq 11 I (H2 1 6 I) (Qx I) (Ay 13 I (SW AU I (NV.one _) (Ai (H2 1 6 I) (Aq 14 I (H2 1 6 I) (AF I I) (An (Pm [0,1,1,1,1] I ?_)))))))))))))))
   exact Bc ((s,bn)) trivial (Si I) (λ_ h=>h)
 .intro s bn _
  refine Af (Af (Do8 (rg 8) 5832 (λw2=>(RDE b r).at w2/\(Ad x.bh 91 x.cells).at w2/\(Ad bn 135 ((⟨s,(x.q.M.at' i).nd⟩:NV).c)).at w2) I St.drawn (Hc 5 6 0 I) (Dfa Cu I NA I (Dq I (Al I Ra I (λ_ h=>h.2.2) I) (Md 2 I (Dfa BF I Z77 I (Dq I (AQ ((Rdr.k r).c) I G77 Z77 I (λ_ h=>h.1) (Rdr.k_part _) (Kv.ko _)) (d_t I (E1 (MP (x.q.M.at' i).nd.piv r.k (mf hsm.p (by decide))) I call178 (Hrd 3 I) (λ_ _=>d_t I (e_q I I (AF I I) (AL (Kt (Cs I (Mv 3 I (Lfa Cu I Z22 I (Lo G22 0 I (Lq I (AJ I U22 I (Hrd 2 I)) (Mv 2 I (Nk (Sf 35 I (by show ¬((ET (x.q.M.at' i).nd.piv r.k:Nat):Int)<(((x.q.M.at' i).nd.kids.length:Nat):Int);rw[hke];simp) (Aa I (Ae (Ks (D8 [(0,O),(1,O),(2,O),(3,O),(4,O),(5,O),(6,O),(7,O),(8,V),(9,O),(10,O),(11,O),(12,O),(13,O),(14,V),(15,W),(16,W),(17,W)] [15,16,17] [(_,O),(_,O),(_,O),(_,O),(_,O),(_,O),(_,O),(_,O),(_,V),(_,O),(_,O),(_,O),(_,O),(_,O),(_,V),(_,W),(_,W),(_,W)] (λw2=>(∃cs,(Ad b 226 cs).at w2/\(cs.drop 1).take 9=r.k.c)/\(Ad bn 135 (⟨s,(x.q.M.at' i).nd⟩:NV).c).at w2) rfl rfl rfl rfl St.drawn (λ_ h=>⟨⟨_,h.at 5 rfl,Rdr.k_part _⟩,h.at 0 rfl⟩) (Md 2 I (Dfa Cu I Z49 I (Dq I (Al I G49 I (λ_ h=>h.2) I) (Dm I ?_)))))))))))))))))))))))))))))
  refine Dc I (Dfa BF I Z77 I (Dq I (JH r.k.c I G77 Z77 I (λ_ h=>h.1) (Kv.ko _)) (d_e I (E1 (Rv (x.q.M.at' i).nd.es r.k hri (mf hsm.e (by decide))) I call181 (Hrd 1 I) (λ_ _=>Ai (λ_ h=>⟨⟨_,h.at 5 rfl,Rdr.k_part _⟩,h.at 0 rfl⟩) (Md 4 I (Dfa BF I Z56 I (EM (d_e I (Az I I Z56 I I (Kv.ko _) (Kv.one _) (by rw[Kv.ko,Rdr.ko];decide) (Ce (({r with v:=(AN (x.q.M.at' i).nd.es r.k).1}:Rdr)).c (Rdr.set_v _ _) (Ai (λ_ h=>⟨⟨_,h.at 0 rfl,Rdr.k_part _⟩,h.at 1 rfl⟩) (d_t I (e_q I I (Bw I I) (d_t I (e_q I I (Ba I BF I Z4 I I) (d_t I (AG I I Z4 I I I (by rw[Rdr.ko];decide) (Ce (({({r with v:=(AN (x.q.M.at' i).nd.es r.k).1}:Rdr) with f:=(AN (x.q.M.at' i).nd.es r.k).2}:Rdr)).c (Rdr.set_f _ _) (AL (Ks (Cs I (Mv 2 I (Lfa BF I Z4 I ?_))))))))))))))))))))))))
  refine Lq I (Al I G4 I (Hat 0 I) (Rdr.a_at _)) (Nk ?_)
  refine GQ (λ(_u:Unit)=>[(0,ptV b),(1,ptV x.bh)]) (λ(_u:Unit)=>St w (dom (RDE b r::x.H)) (Ad bn 135 (⟨s,(x.q.M.at' i).nd⟩:NV).c::(Bz (⟨s,(x.q.M.at' i).nd⟩:NV)++(RDE b ({r with v:=(r.endv (x.q.M.at' i).nd.es).1,f:=(r.endv (x.q.M.at' i).nd.es).2}:Rdr)::x.H)))) (λ(_u:Unit)=>True) ?_ ?_
  .refine Pre.caseB 107 I (λhan=>?_) (λhan=>?_)
   .try simp only[B4] at han
    refine Ah I (D8 [(0,O),(1,O),(2,O),(3,O),(4,O),(6,O),(7,O),(8,O),(9,O),(10,O),(11,O),(12,O),(13,O),(5,V),(14,V),(15,O),(16,O),(17,O),(18,O),(19,O),(20,V),(21,W),(22,W),(23,W)] [21,22,23] [(_,O),(_,O),(_,O),(_,O),(_,O),(_,O),(_,O),(_,O),(_,O),(_,O),(_,O),(_,O),(_,O),(_,V),(_,V),(_,O),(_,O),(_,O),(_,O),(_,O),(_,V),(_,W),(_,W),(_,W)] (λw2=>∃cs,(Ad b 226 cs).at w2/\(cs.drop 15).take 29=r.m.c/\cs[62]?=some (.bool (AN (x.q.M.at' i).nd.es r.k).2)) rfl rfl rfl rfl St.drawn (λ_ h=>⟨_,h.at 0 rfl,Rdr.m_part _,Rdr.f_at _⟩) (Md 4 I (Dfa BF I Z56 I (Md 2 I (Dfa BF I Z4 I (Dq I (XK I G4 I (λ_ ⟨cs,h1,_,h3⟩=>⟨cs,h1,h3⟩)) (Md 2 I (Dfa BF I Bl I (Dq I (JH r.m.c I Cm Bl I (λ_ ⟨cs,h1,h2,_⟩=>⟨cs,h1,h2⟩) (Ms.ko _)) (d_e I (e_q I I (Cq ((AN (x.q.M.at' i).nd.es r.k).1.c) G56 Z56 0 I (Rdr.v_part _) (Kv.ko _)) (Ai (λ_ h=>⟨_,h.at 0 rfl,Rdr.m_part _,Rdr.f_at _⟩) (d_e I (E1 (Gy (AN (x.q.M.at' i).nd.es r.k).1 (AN (x.q.M.at' i).nd.es r.k).2 r.m) I call159 Tt ?_))))))))))))))
    intro _ _
    rw[<-XO han]
    refine Ai (λ_ h=>⟨_,h.at 0 rfl,Rdr.m_part _,Rdr.f_at _⟩) (Md 4 I (Dfa BF I Z56 I (d_e I (Az I I Z56 I I (Kv.ko _) (Kv.one _) (by rw[Kv.ko,Rdr.ko];decide) (Ce (({({({r with v:=(AN (x.q.M.at' i).nd.es r.k).1}:Rdr) with f:=(AN (x.q.M.at' i).nd.es r.k).2}:Rdr) with v:=(r.endv (x.q.M.at' i).nd.es).1}:Rdr)).c (Rdr.set_v _ _) (Ai (λ_ h=>⟨_,h.at 0 rfl,Rdr.m_part _,Rdr.f_at _⟩) (d_t I (e_q I I (Bw I I) (d_t I (e_q I I (Ba I BF I Z4 I I) (d_t I (AG I I Z4 I I I (by rw[Rdr.ko];decide) (Ce (({({({({r with v:=(AN (x.q.M.at' i).nd.es r.k).1}:Rdr) with f:=(AN (x.q.M.at' i).nd.es r.k).2}:Rdr) with v:=(r.endv (x.q.M.at' i).nd.es).1}:Rdr) with f:=(r.endv (x.q.M.at' i).nd.es).2}:Rdr)).c (Rdr.set_f _ _) (AL (Pm [6,6,6,6,6,6] I ?_)))))))))))))))
    refine Pm [7,7,7,7,7,6] I ?_
    exact Bc (()) trivial (Si I) (λ_ h=>h)
   .try simp only[B4] at han
    refine Aa I (Ae (Pm [1,1,1,1,1] I ?_))
    exact Bc (()) trivial (Si I) (λ_ h=>by rw[bG han];exact h)
  .intro _u _
   refine Af (Do8 (rg 10) 39366 _ I St.drawn Ih (Md 3 I (Dfa BF I Z3 I (Dq I (Al I G3 I (Hat 5 I) I) (Md 2 I (Dfa BF I Z3 I (Dq I (Al I G3 I (Hat 5 I) (Rdr.mid _ (j:=1) I)) (d_t I (Ee [_,_,_,_,_,_] (RM h ht hf hh) I call122 Tt ?_)))))))))
   rintro⟨y,v⟩ ⟨hbh,hk,hy⟩
   refine Pw (St _ _ (_::_::_::_::_::_::HQ.H (y))) ?_
   refine AL (Kt (Cr I (Mv 3 I (Lfa BF I Z3 I (EM (l_e I (AG I I Z3 I I I (by rw[Rdr.ko];decide) (Ce (({({r with v:=(r.endv (x.q.M.at' i).nd.es).1,f:=(r.endv (x.q.M.at' i).nd.es).2}:Rdr) with at':=6}:Rdr)).c (Rdr.set_mid (j:=0) I (by decide) I) (Lc I (Lfa BF I Z4 I (l_e I (AG I I Z4 I I I (by rw[Rdr.ko];decide) (Ce (({({({r with v:=(r.endv (x.q.M.at' i).nd.es).1,f:=(r.endv (x.q.M.at' i).nd.es).2}:Rdr) with at':=6}:Rdr) with pin:=false}:Rdr)).c (Rdr.set_mid (j:=3) I (by decide) I) (AB (Bp (Pm [6,6,6,6,6,6] I ?_))))))))))))))))
   exact Pm [7,7,7,7,7,6] I (Av (Av (Av (Av (Av (BB I (λ_ hh=>⟨y,rfl,⟨hbh,hk,hy⟩,hh⟩)))))))
theorem fU (h:x.Ok B) (b:Nat) (r:Rdr) (ht:tkB r.t) (hmay:x.hm.may r.t) (hat:r.at'=5) {i:Nat} (hf:x.q.M.frI (r.blk:Int) 2=some i) (hrm:BE Ms.key (x.q.M.at' i).nd.msgs) {kid:Nat} (hkid:(x.q.M.at' i).nd.kids[ET (x.q.M.at' i).nd.piv r.k]?=some (kid:Int)):Con prog 77 [ptV b,ptV x.bh] Tr (RDE b r::x.H) (λ_:Unit=>.bool false) Tr (λ_=>RDE b (r.down (x.q.M.at' i).nd.msgs kid)::x.H):=by
 intro w hE hH
 refine Ey func77 I hH (Cs I (Ak I (GR 0 I (Af (Cs I (Mv 2 I (Lfa BF I Z3 I (Lq I (Al I G3 I (Hat 0 I) (Rdr.mid _ (j:=0) I)) (Mv 2 I (Sb 10 false I (by rw[hat];rfl) (Mv 3 I (Lfa BF I Z3 I (Lo G3 0 I (l_e I (Ee [_] (Ha h r.t) I call82 Tt (λ_ _=>Pw (St _ _ (_::HQ.H (x))) ?_))))))))))))))))
 refine Sv' 16 (.bool true) I (by rw[hmay]) (Mv 2 I (Nk (Aa I (Ae (Ks (Cs I (Mv 2 I (Lfa BF I Z3 I (Lq I (Al I G3 I (Hat 0 I) (Rdr.mid _ (j:=0) I)) (Nk (Aj (Cs I (Lq I (Qe I) (Ak I (Sb 23 false I (by rw[hat];rfl) (Aa I (Cs I (Lq I (Qe I) (Ak I (Sb 52 false I (by rw[hat];rfl) (Aa I ?_)))))))))))))))))))))
 refine Cs I (Lq I (Qe I) (Ak I (Sb 67 false I (by rw[hat];rfl) (Aa I (Cs I (Lq I (Qe I) (Ak I (Sb 89 false I (by rw[hat];rfl) (Aa I (Ae (Aw (Kt (Cs I (Mv 2 I (l_e I (Ee [] (XN h b r hf hrm hkid) I call123 Tt (λ_ _=>Pw (St _ _ (_::HQ.H x)) ?_)))))))))))))))))
 exact Ns (SK (Kt (Cs I (Mv 2 I (Lfa BF I Z3 I (Lq I (Al I G3 I (Hat 0 I) (Rdr.mid _ (j:=0) I)) (Lq I (Qe I) (Ak I (Ag (Kf (Ao I I (λ_ hh=>⟨(),rfl,T0,hh⟩))))))))))))
theorem iX (h:x.Ok B) (b:Nat) (r:Rdr) (ht:tkB r.t) (hmay:x.hm.may r.t) (hat:r.at'=5) {i:Nat} (hf:x.q.M.frI (r.blk:Int) 2=some i) (hke:(x.q.M.at' i).nd.kids=[]) (hri:BG (x.q.M.at' i).nd.es) (hh:De (x.hm.lat i) r.t):Con prog 77 [ptV b,ptV x.bh] Tr (RDE b r::x.H) (λy:HQ=>.bool true) (λy=>y.bh=x.bh/\y.Ok B/\y.hm=x.hm.leave i r.t r.blk) (λy=>RDE b (r.fin (x.q.M.at' i).nd.es)::y.H):=by
 intro w hE hH
 refine Ey func77 I hH (Cs I (Ak I (GR 0 I (Af (Cs I (Mv 2 I (Lfa BF I Z3 I (Lq I (Al I G3 I (Hat 0 I) (Rdr.mid _ (j:=0) I)) (Mv 2 I (Sb 10 false I (by rw[hat];rfl) (Mv 3 I (Lfa BF I Z3 I (Lo G3 0 I (l_e I (Ee [_] (Ha h r.t) I call82 Tt (λ_ _=>Pw (St _ _ (_::HQ.H (x))) ?_))))))))))))))))
 refine Sv' 16 (.bool true) I (by rw[hmay]) (Mv 2 I (Nk (Aa I (Ae (Ks (Cs I (Mv 2 I (Lfa BF I Z3 I (Lq I (Al I G3 I (Hat 0 I) (Rdr.mid _ (j:=0) I)) (Nk (Aj (Cs I (Lq I (Qe I) (Ak I (Sb 23 false I (by rw[hat];rfl) (Aa I (Cs I (Lq I (Qe I) (Ak I (Sb 52 false I (by rw[hat];rfl) (Aa I ?_)))))))))))))))))))))
 refine Cs I (Lq I (Qe I) (Ak I (Sb 67 false I (by rw[hat];rfl) (Aa I (Cs I (Lq I (Qe I) (Ak I (Sb 89 false I (by rw[hat];rfl) (Aa I (Ae (Aw (Kt (Cs I (Mv 2 I (l_e I (Ee [] (XP h b r ht hf hke hri hh) I call123 Tt ?_))))))))))))))))
 rintro y ⟨hbh,hk,hy⟩
 refine Pw (St _ _ (_::HQ.H y)) ?_
 exact Ns (SK (Kt (Cs I (Mv 2 I (Lfa BF I Z3 I (Lq I (Al I G3 I (Hat 0 I) (Rdr.mid _ (j:=0) I)) (Lq I (Qe I) (Ak I (Ag (Kf (Ao I I (λ_ hh=>⟨y,rfl,⟨hbh,hk,hy⟩,hh⟩))))))))))))
theorem Fe (a b:Kv 8):Bq b a = -Bq a b:=NO _ _
theorem El {l:List En} {m:Ms} (hs:BG l) (hk:∀e∈l,kck e.key=true) (hm:kck m.key):BG (Bs l m):=by
 have hcross:∀a∈l.take (Cd l m.key),∀b∈l.drop (Cd l m.key),Bq a.key b.key<0:=by
  have h1:(l.take (Cd l m.key)++l.drop (Cd l m.key)).Pairwise (λa b:En=>Bq a.key b.key<0):=by rw[my];exact hs
  exact (pg.1 h1).2.2
 have hlow:∀a∈l.take (Cd l m.key),Bq a.key m.key<0:=λa ha=>by
  obtain⟨j,hj⟩:=oJ.1 ha
  rw[lr] at hj
  split at hj
  .rename_i hlt;exact Ta hlt hj
  .cases hj
 have hnew:∀b∈CY l m,b.key=m.key:=λb hb=>by
  unfold CY at hb
  split at hb
  .simp at hb;rw[hb]
  .simp at hb
 have hhigh:∀b∈l.drop (Cd l m.key+(if lis l m.key=true then 1 else 0)),Bq m.key b.key<0:=λb hb=>by
  obtain⟨j,hj⟩:=oJ.1 hb
  rw[ly] at hj
  by_cases hl:lis l m.key=true
  .rw[lu hl] at hj
   obtain⟨e,h1,h2,_⟩:=NW hl
   have:=D5 hs _ _ e b (by omega) h1 hj
   rwa[h2] at this
  .rw[lz hl] at hj
   have hge:=Ii (k:=m.key) hs (by omega) hj
   have hne:Bq m.key b.key≠0:=λh0=>by
    have hbk:=hk b (mQ hj)
    have he:b.key=m.key:=(SV hm hbk (Gu h0)).symm
    rcases lN j with h|h
    .subst h
     refine hl ?_
     unfold lis
     rw[show Cd l m.key+0+0=Cd l m.key by omega] at hj
     rw[hj]
     exact od he
    .obtain⟨d,hd⟩:∃d,l[Cd l m.key]?=some d:=⟨_,kY (by have:=(lR.1 hj).1;omega)⟩
     have h3:=D5 hs _ _ d b (by omega) hd hj
     rw[he] at h3
     exact Ii hs (lJ _) hd h3
   have h2:=Fe b.key m.key
   omega
 have hsub:∀b∈l.drop (Cd l m.key+(if lis l m.key=true then 1 else 0)),b∈l.drop (Cd l m.key):=λb hb=>by
  rw[<-lG] at hb
  exact List.mem_of_mem_drop hb
 unfold Bs BG
 rw[mj]
 refine pg.2 ⟨hs.sublist (pj _ _),pg.2 ⟨?_,hs.sublist (List.drop_sublist _ _),λa ha b hb=>by rw[hnew a ha];exact hhigh b hb⟩,λa ha b hb=>?_⟩
 .unfold CY;split
  .exact List.pairwise_singleton _ _
  .exact List.Pairwise.nil
 .rcases mT.1 hb with h|h
  .rw[hnew b h];exact hlow a ha
  .exact hcross a ha b (hsub b h)
theorem FP (h:Cv (lfN es)):lck es=true/\lby es<=248:=by
 unfold Cv at h
 simp only[mz,mS] at h
 exact⟨h.1.1,h.2⟩
theorem DJ (h:Cv (lfN es)):∀e∈es,kck e.key=true/\vck e.val=true:=λe he=>by
 obtain⟨i,hi⟩:=oJ.1 he
 have h1:=GA hi (Ry (FP h).1 hi)
 exact⟨h1.1,h1.2.1⟩
theorem fV {v:Kv 16} (h:vck v):0<=v.n:=by
 unfold vck at h
 rcases Int.lt_or_le v.n 0 with h0|h0
 .exfalso
  unfold C2 at h
  simp at h
  omega
 .exact h0
theorem Ts:∀{es:List En},(∀e∈es,kck e.key=true/\vck e.val=true)->2*(es.length:Int)<=lby es
 |[],_=>by simp[lby]
 |e::es,h=>by
  have ih:=Ts (es:=es) (λx hx=>h x (nG _ hx))
  obtain⟨h1,h2⟩:=h e (ns ..)
  obtain⟨m,hm,_⟩:=DU h1
  have hv:=fV h2
  have e1:lby (e::es)=lsz e+lby es:=by simp[lby]
  rw[e1,kQ]
  unfold lsz
  omega
theorem Oe (h:Cv (lfN es)):(lfN es).Sm 1000:=by
 have h1:=Ts (DJ h)
 have h2:=(FP h).2
 exact⟨by show es.length<=1000;omega,lK _,lK _,lK _⟩
theorem K1 (k:Kv 16):∃a b c d e f g h a2 b2 c2 d2 e2 f2 g2 h2:Int,k.b=[a,b,c,d,e,f,g,h,a2,b2,c2,d2,e2,f2,g2,h2]:=by
 obtain⟨n,b,len,_,_⟩:=k
 match b,len with
 |[a,b,c,d,e,f,g,h,a2,b2,c2,d2,e2,f2,g2,h2],_=>exact⟨a,b,c,d,e,f,g,h,a2,b2,c2,d2,e2,f2,g2,h2,rfl⟩
structure Wr where
 t:Int
 m:Ms
 at':Int
 pin:Bool
 room:Value
 e:Int
def Ms.kA (m:Ms) (s:Int) (h:(Lit.int .u64 s).wf=true):Ms:={m with seq:=s,ws:=h}
theorem Ms.set_seq (m:Ms) (s:Int) (h:(Lit.int .u64 s).wf):m.c.set 1 (.int .u64 s)=(m.kA s h).c:=rfl
namespace Wr
def four (w:Wr):List Value:=[.int .i64 w.at',.bool w.pin,w.room,.int .i64 w.e]
def c (w:Wr):List Value:=(.int .i64 w.t::w.m.c)++w.four
theorem ko (w:Wr):w.c.length=34:=by simp[c,four,Ms.ko]
theorem hd_len (w:Wr):(Value.int .i64 w.t::w.m.c).length=30:=by simp[Ms.ko]
theorem mid (w:Wr) {j:Nat} {v:Value} (h:w.four[j]?=some v):w.c[30+j]?=some v:=by
 unfold c
 rw[lx (by rw[hd_len];omega),hd_len,pf]
 exact h
theorem m_part (w:Wr):(w.c.drop 1).take 29=w.m.c:=by
 unfold c
 rw[kP,mD,lE]
 exact List.take_left' (Ms.ko _)
theorem set_mid {w w':Wr} (ht:w'.t=w.t) (hm:w'.m=w.m) (h:w.four.set j v=w'.four):w.c.set (30+j) v=w'.c:=by
 unfold c
 rw[m6 _ _ (by rw[hd_len];omega),hd_len,pf,h,ht,hm]
end Wr
abbrev WRE (b:Nat) (w:Wr):Ent:=Ad b 229 w.c
theorem Vh (t ki sq kn a b c d e f g h vn i0 i1 i2 i3 i4 i5 i6 i7 i8 i9 j0 j1 j2 j3 j4 j5 bw:Int) (w:World):(Instr.build 229 #[(0,.int .i64 t),(1,.agg [.int .i64 ki,.int .u64 sq,.int .i64 kn,.int .u8 a,.int .u8 b,.int .u8 c,.int .u8 d,.int .u8 e,.int .u8 f,.int .u8 g,.int .u8 h,.int .i64 vn,.int .u8 i0,.int .u8 i1,.int .u8 i2,.int .u8 i3,.int .u8 i4,.int .u8 i5,.int .u8 i6,.int .u8 i7,.int .u8 i8,.int .u8 i9,.int .u8 j0,.int .u8 j1,.int .u8 j2,.int .u8 j3,.int .u8 j4,.int .u8 j5,.int .u64 bw].toArray)]).run prog w=.ok (.agg [.int .i64 t,.int .i64 ki,.int .u64 sq,.int .i64 kn,.int .u8 a,.int .u8 b,.int .u8 c,.int .u8 d,.int .u8 e,.int .u8 f,.int .u8 g,.int .u8 h,.int .i64 vn,.int .u8 i0,.int .u8 i1,.int .u8 i2,.int .u8 i3,.int .u8 i4,.int .u8 i5,.int .u8 i6,.int .u8 i7,.int .u8 i8,.int .u8 i9,.int .u8 j0,.int .u8 j1,.int .u8 j2,.int .u8 j3,.int .u8 j4,.int .u8 j5,.int .u64 bw,.int .i64 0,.bool false,.pointer none,.int .i64 0].toArray) w:=by kernel_rfl
theorem XQ (t:Int) (m:Ms) (w:World):(Instr.build 229 #[(0,.int .i64 t),(1,.agg m.c.toArray)]).run prog w=.ok (.agg (Wr.c ⟨t,m,0,false,.pointer none,0⟩).toArray) w:=by
 obtain⟨ki,sq,key,val,by',h1,h2,h3⟩:=m
 obtain⟨a,b,c,d,e,f,g,h,hk⟩:=Gv key
 obtain⟨i0,i1,i2,i3,i4,i5,i6,i7,i8,i9,j0,j1,j2,j3,j4,j5,hv⟩:=K1 val
 have e1:(Ms.c ⟨ki,sq,key,val,by',h1,h2,h3⟩)=[.int .i64 ki,.int .u64 sq,.int .i64 key.n,.int .u8 a,.int .u8 b,.int .u8 c,.int .u8 d,.int .u8 e,.int .u8 f,.int .u8 g,.int .u8 h,.int .i64 val.n,.int .u8 i0,.int .u8 i1,.int .u8 i2,.int .u8 i3,.int .u8 i4,.int .u8 i5,.int .u8 i6,.int .u8 i7,.int .u8 i8,.int .u8 i9,.int .u8 j0,.int .u8 j1,.int .u8 j2,.int .u8 j3,.int .u8 j4,.int .u8 j5,.int .u64 by']:=by
  unfold Ms.c Kv.c
  rw[hk,hv];rfl
 unfold Wr.c
 dsimp only
 rw[e1]
 exact Vh t ki sq key.n a b c d e f g h val.n i0 i1 i2 i3 i4 i5 i6 i7 i8 i9 j0 j1 j2 j3 j4 j5 by' w
theorem Vi (t kn a b c d e f g h:Int) (w:World):(Instr.build 226 #[(0,.int .i64 t),(1,.agg [.int .i64 kn,.int .u8 a,.int .u8 b,.int .u8 c,.int .u8 d,.int .u8 e,.int .u8 f,.int .u8 g,.int .u8 h].toArray),(2,.int .i64 1),(3,.int .i64 0)]).run prog w=.ok (.agg [.int .i64 t,.int .i64 kn,.int .u8 a,.int .u8 b,.int .u8 c,.int .u8 d,.int .u8 e,.int .u8 f,.int .u8 g,.int .u8 h,.int .i64 1,.int .i64 0,.int .i64 0,.bool false,.bool false,.int .i64 0,.int .u64 0,.int .i64 0,.int .u8 0,.int .u8 0,.int .u8 0,.int .u8 0,.int .u8 0,.int .u8 0,.int .u8 0,.int .u8 0,.int .i64 0,.int .u8 0,.int .u8 0,.int .u8 0,.int .u8 0,.int .u8 0,.int .u8 0,.int .u8 0,.int .u8 0,.int .u8 0,.int .u8 0,.int .u8 0,.int .u8 0,.int .u8 0,.int .u8 0,.int .u8 0,.int .u8 0,.int .u64 0,.bool false,.int .i64 0,.int .u8 0,.int .u8 0,.int .u8 0,.int .u8 0,.int .u8 0,.int .u8 0,.int .u8 0,.int .u8 0,.int .u8 0,.int .u8 0,.int .u8 0,.int .u8 0,.int .u8 0,.int .u8 0,.int .u8 0,.int .u8 0,.bool false].toArray) w:=by kernel_rfl
theorem XR (t:Int) (k:Kv 8) (w:World):(Instr.build 226 #[(0,.int .i64 t),(1,.agg k.c.toArray),(2,.int .i64 1),(3,.int .i64 0)]).run prog w=.ok (.agg (Rdr.c ⟨t,k,1,0,0,false,false,ms0,false,kv0 16,false⟩).toArray) w:=by
 obtain⟨a,b,c,d,e,f,g,h,hk⟩:=Gv k
 have e1:k.c=[.int .i64 k.n,.int .u8 a,.int .u8 b,.int .u8 c,.int .u8 d,.int .u8 e,.int .u8 f,.int .u8 g,.int .u8 h]:=by
  unfold Kv.c;rw[hk];rfl
 unfold Rdr.c Rdr.hd
 dsimp only
 rw[e1]
 exact Vi t k.n a b c d e f g h w
section
variable {P:Program} {n:Nat} {L:Env} {o:Oper} {Q:Exit->Act->World->Prop} {K:Act->World->Prop} {w0:World} {D:List Nat}
theorem Ff {v:β->Value} {p:β->Prop} {HA:List Ent} {HB:β->List Ent} {g:Operand} (pre:List Ent) (s:Con P f vs E HA v p HB) (ho:o.op=.call ⟨.value g,xs.toArray,ts⟩) (hd:o.dst=some d) (hn:d.blt n) (hg:ev L g=some (.func (.func f) #[] #[]))
 (hc:∀us w,(callFunc f us).run P w=.ok (.enter f us) w) (hv:evs L xs=some vs) (hE:∀w,St w0 D (pre++HA) w->E w) (h:∀b,p b->Pre n ((d,v b)::L) (St w0 D (pre++HB b)) K):EOp P n L (St w0 D (pre++HA)) o Q K :=
 F1 (us:=[]) ho hd hn hg hc hv (λw x=>by rw[nS];exact (s.frame (F:=pre) (x.perm og) (hE w x)).mono (λe w' ⟨b,he,hp,h'⟩=>⟨b,he,hp,h'.perm og⟩)) h
end
abbrev rmC (t at':Int) (lo:Int) (has pin root:Bool) (e:Int):List Value:=[.int .i64 t,.bool true,.int .i64 at',.int .i64 0,.int .i64 lo,.bool has,.bool pin,.bool root,.int .i64 e]
abbrev RME (b:Nat) (t at':Int) (has:Bool) (e:Int):Ent:=Ad b 249 (rmC t at' 0 has false true e)
def Ja (e:Int):Int×Bool:=if e=1\/e=2 then (2,true) else if e=3 then (1,true) else (0,false)
theorem iY (h:x.Ok B) {t:Int} (ht:tkB t) (b:Nat) (m:Ms) (sq:Int) (hB:B+1<=60000) (hu:x.s.us[0]?=some true):Con prog 182 [ptV b,ptV x.bh,.int .u64 sq] Tr (WRE b (⟨t,m,0,false,(.pointer none),0⟩:Wr)::x.H) (λy:HQ=>.bool false) (λy=>y.bh=x.bh/\y.Ok (B+1)/\y.hm=(x.hm.pin t ((0:Nat):Int)).2) (λy=>WRE b (⟨t,m,(Ja (x.hm.pin t ((0:Nat):Int)).1).1,(Ja (x.hm.pin t ((0:Nat):Int)).1).2,(.pointer none),0⟩:Wr)::y.H):=by
 intro w hE hH
 refine Ey func182 I hH (Cs I (Ak I (Af (Cs I (Mv 3 I (Lfa BX I Z3 I (Lo G3 0 I ?_)))))))
 have hp3:=MV x.hm t ((0:Nat):Int)
 refine l_e I (Ee [_] (iS h hB t (k:=0) hu (by decide)) I call121 Tt ?_)
 rintro y ⟨hbh,hk,hy⟩
 refine Pw (St _ _ (_::HQ.H (y))) ?_
 refine Nk (Aj (Af (Cs I (Lq I (Qe I) (Ak I ?_)))))
 rcases hp3 with e3|e3|e3|e3|e3
 .refine Sv' 12 (.int .i64 0) I (by rw[e3]) (Sb 13 false I (by first|rfl|(rw[e3];rfl)) (Aa I (Cr I (Lq I (Qe I) (Ak I (Sb 13 false I (by first|rfl|(rw[e3];rfl)) (Aa I (Cs I (Lq I (Qe I) (Ak I (Sb 22 false I (by first|rfl|(rw[e3];rfl)) (Aa I (Ae (Aw (Kt (Cs I (Ak I (Ag (Pm [2,2,2,2,2] I ?_)))))))))))))))))))
  exact Pm [5,5] I (Ao I I (λ_ hh=>⟨y,rfl,⟨hbh,hk,hy⟩,by dsimp only;rw[e3];exact hh⟩))
 .refine Sv' 12 (.int .i64 1) I (by rw[e3]) (Sb 13 true I (by first|rfl|(rw[e3];rfl)) (Ah I (Ae (Kt (Ah I (Cr I (Mv 3 I (Lfa BX I Z3 I (l_e I (AG I I Z3 I I I (by rw[Wr.ko];decide) (Ce ((⟨t,m,2,false,(.pointer none),0⟩:Wr)).c (Wr.set_mid (j:=0) I I I) (Lc I (Lfa BX I Z4 I (l_e I (AG I I Z4 I I I (by rw[Wr.ko];decide) (Ce ((⟨t,m,2,true,(.pointer none),0⟩:Wr)).c (Wr.set_mid (j:=1) I I I) (AB (Aw (Kt (Cs I (Ak I ?_)))))))))))))))))))))
  exact Ag (Ao I I (λ_ hh=>⟨y,rfl,⟨hbh,hk,hy⟩,by dsimp only;rw[e3];exact hh⟩))
 .refine Sv' 12 (.int .i64 2) I (by rw[e3]) (Sb 13 false I (by first|rfl|(rw[e3];rfl)) (Aa I (Cr I (Lq I (Qe I) (Ak I (Sb 13 true I (by first|rfl|(rw[e3];rfl)) (Ah I (Cr I (Mv 3 I (Lfa BX I Z3 I (l_e I (AG I I Z3 I I I (by rw[Wr.ko];decide) (Ce ((⟨t,m,2,false,(.pointer none),0⟩:Wr)).c (Wr.set_mid (j:=0) I I I) (Lc I (Lfa BX I Z4 I (l_e I (AG I I Z4 I I I (by rw[Wr.ko];decide) (Ce ((⟨t,m,2,true,(.pointer none),0⟩:Wr)).c (Wr.set_mid (j:=1) I I I) (AB (Aw (Kt ?_)))))))))))))))))))))
  exact Cs I (Ak I (Ag (Ao I I (λ_ hh=>⟨y,rfl,⟨hbh,hk,hy⟩,by dsimp only;rw[e3];exact hh⟩))))
 .refine Sv' 12 (.int .i64 3) I (by rw[e3]) (Sb 13 false I (by first|rfl|(rw[e3];rfl)) (Aa I (Cr I (Lq I (Qe I) (Ak I (Sb 13 false I (by first|rfl|(rw[e3];rfl)) (Aa I (Cs I (Lq I (Qe I) (Ak I (Sb 22 true I (by first|rfl|(rw[e3];rfl)) (Ah I (Cr I (Mv 3 I (Lfa BX I Z3 I (l_e I (AG I I Z3 I I I (by rw[Wr.ko];decide) (Ce ((⟨t,m,1,false,(.pointer none),0⟩:Wr)).c (Wr.set_mid (j:=0) I I I) (Lc I (Lfa BX I Z4 I (l_e I ?_)))))))))))))))))))))
  exact AG I I Z4 I I I (by rw[Wr.ko];decide) (Ce ((⟨t,m,1,true,(.pointer none),0⟩:Wr)).c (Wr.set_mid (j:=1) I I I) (AB (Aw (Kt (Cs I (Ak I (Ag (Ao I I (λ_ hh=>⟨y,rfl,⟨hbh,hk,hy⟩,by dsimp only;rw[e3];exact hh⟩)))))))))
 .refine Sv' 12 (.int .i64 4) I (by rw[e3]) (Sb 13 false I (by first|rfl|(rw[e3];rfl)) (Aa I (Cr I (Lq I (Qe I) (Ak I (Sb 13 false I (by first|rfl|(rw[e3];rfl)) (Aa I (Cs I (Lq I (Qe I) (Ak I (Sb 22 false I (by first|rfl|(rw[e3];rfl)) (Aa I (Ae (Aw (Kt (Cs I (Ak I (Ag (Pm [2,2,2,2,2] I ?_)))))))))))))))))))
  exact Pm [5,5] I (Ao I I (λ_ hh=>⟨y,rfl,⟨hbh,hk,hy⟩,by dsimp only;rw[e3];exact hh⟩))
theorem fW (h:x.Ok B) {t:Int} (ht:tkB t) (b:Nat) (m:Ms) (sq:Int) (hu:x.s.us[0]?=some true) (hr:Co (0:Int) x.rd=some t) {bk:Bk} (hb:x.s.bl[0]?=some bk) {nd:Nd} (hd:RK bk.l nd) (hsm:nd.Sm 1000):Con prog 183 [ptV b,ptV x.bh,.int .u64 sq] Tr (WRE b (⟨t,m,1,true,(.pointer none),0⟩:Wr)::x.H) (λy:HQ=>.bool false) (λy=>y.bh=x.bh/\y.Ok B/\y.hm=x.hm.load 0 nd) (λy=>WRE b (⟨t,m,2,true,(.pointer none),0⟩:Wr)::y.H):=by
 intro w hE hH
 refine Ey func183 I hH (Cs I (Ak I (Cs I (Mv 3 I (Lfa BX I Z3 I (Lo G3 0 I (l_e I (Ee [_] (dU (k:=0) h hu hr hb hd hsm) I call85 Tt ?_))))))))
 rintro⟨y,v,bo⟩ ⟨hbh,hk,hy⟩
 refine Pw (St _ _ (_::HQ.H (y))) ?_
 exact Nk (Cs I (Mv 2 I (Lfa BX I Z3 I (l_e I (AG I I Z3 I I I (by rw[Wr.ko];decide) (Ce ((⟨t,m,2,true,(.pointer none),0⟩:Wr)).c (Wr.set_mid (j:=0) I I I) (Nk (Cs I (Ak I (Ag (Ao I I (λ_ hh=>⟨y,rfl,⟨hbh,hk,hy⟩,hh⟩))))))))))))
theorem fX (h:x.Ok B) {t:Int} (ht:tkB t) (b:Nat) (m:Ms) (sq:Int) (hB:B+1<=60000) {i:Nat} (hf:x.q.M.frI 0 2=some i):Con prog 184 [ptV b,ptV x.bh,.int .u64 sq] Tr (WRE b (⟨t,m,2,true,(.pointer none),0⟩:Wr)::x.H) (λy:HQ=>.bool false) (λy=>y.bh=x.bh/\y.Ok (B+1)/\y.hm=x.hm.take i t true) (λy=>WRE b (⟨t,m,3,true,(.pointer none),0⟩:Wr)::y.H):=by
 intro w hE hH
 refine Ey func184 I hH (Cs I (Ak I (Cs I (Mv 3 I (Lfa BX I Z3 I (Lo G3 0 I (l_e I (Ee [_] (xtk h ht hf hB true) I call86 Tt ?_))))))))
 rintro⟨y,bo⟩ ⟨hbh,hk,hy⟩
 refine Pw (St _ _ (_::HQ.H (y))) ?_
 exact Nk (Cs I (Mv 2 I (Lfa BX I Z3 I (l_e I (AG I I Z3 I I I (by rw[Wr.ko];decide) (Ce ((⟨t,m,3,true,(.pointer none),0⟩:Wr)).c (Wr.set_mid (j:=0) I I I) (Nk (Cs I (Ak I (Ag (Ao I I (λ_ hh=>⟨y,rfl,⟨hbh,hk,hy⟩,hh⟩))))))))))))
theorem Of (h:x.Ok B) {t:Int} (ht:tkB t) (b:Nat) (m:Ms) (e:Int) {i:Nat} (hf:x.q.M.frI 0 2=some i) (hh:De (x.hm.lat i) t) (a0:Int) (rm0:Value):Con prog 254 [ptV b,ptV x.bh,.int .i64 e] Tr (WRE b (⟨t,m,a0,true,rm0,0⟩:Wr)::x.H) (λy:HQ=>.tuple #[]) (λy=>y.bh=x.bh/\y.Ok B/\y.hm=x.hm.leave i t 0) (λy=>WRE b (⟨t,m,5,false,(.pointer none),e⟩:Wr)::y.H):=by
 intro w hE hH
 refine Ey func254 I hH (Cs I (Mv 3 I (Lfa BX I Z3 I (Lo G3 0 I (l_e I (Ee [_] (RM h ht hf hh) I call122 Tt ?_))))))
 rintro⟨y,v⟩ ⟨hbh,hk,hy⟩
 refine Pw (St _ _ (_::HQ.H (y))) ?_
 refine Nk (Cr I (Mv 6 I (Lfa BX I Z3 I (l_e I (AG I I Z3 I I I (by rw[Wr.ko];decide) (Ce ((⟨t,m,5,true,rm0,0⟩:Wr)).c (Wr.set_mid (j:=0) I I I) (Lc I (Lfa BX I Z4 I (l_e I (AG I I Z4 I I I (by rw[Wr.ko];decide) (Ce ((⟨t,m,5,false,rm0,0⟩:Wr)).c (Wr.set_mid (j:=1) I I I) (Lc I (Lfa BX I Rc I (l_e I (AG I I Rc I I I (by rw[Wr.ko];decide) (Ce ((⟨t,m,5,false,(.pointer none),0⟩:Wr)).c (Wr.set_mid (j:=2) I I I) (Lc I (Lfa BX I Z44 I ?_))))))))))))))))))
 exact l_e I (AG I I Z44 I I I (by rw[Wr.ko];decide) (Ce ((⟨t,m,5,false,(.pointer none),e⟩:Wr)).c (Wr.set_mid (j:=3) I I I) (AB (Bp (BB I (λ_ hh=>⟨y,rfl,⟨hbh,hk,hy⟩,hh⟩))))))
theorem Tu {M:Mo} {b:Int} (h:M.frI b 2=some i) (nd:Nd):(M.setN b nd).2.frI b 2=some i:=by
 obtain⟨h1,h2⟩:=DI h
 have hi:i<M.fr.length:=(lR.1 (C4 h1).choose_spec.1).1
 have hs:(M.setN b nd).2=M.put i {M.at' i with dirty:=true,nd:=nd}:=by unfold Mo.setN Mo.ready;rw[h]
 rw[hs]
 obtain⟨y,hy,hp,hno⟩:=C4 h1
 have hat:M.at' i=y:=by unfold Mo.at';rw[om,hy];rfl
 have hf:(M.put i {M.at' i with dirty:=true,nd:=nd}).find b=some i:=by
  refine C7 (y:={M.at' i with dirty:=true,nd:=nd}) (oU hi) (by rw[hat];exact hp) (λz hz=>?_)
  obtain⟨j,hj⟩:=oJ.1 hz
  rw[lr] at hj
  split at hj
  .rename_i hlt
   have:(M.fr.set i {M.at' i with dirty:=true,nd:=nd})[j]?=M.fr[j]?:=po (by omega)
   exact hno j z hlt (this▸hj)
  .cases hj
 unfold Mo.frI
 rw[hf]
 have e:(M.put i {M.at' i with dirty:=true,nd:=nd}).at' i={M.at' i with dirty:=true,nd:=nd}:=by
  unfold Mo.at' Mo.put;rw[om,oU hi];rfl
 simp only[e]
 rw[lu h2]
theorem iZ (t:Int):Con prog 137 [.int .i64 t,.bool true] Tr [] (λbr:Nat=>ptV br) Tr (λbr=>[RME br t 1 true 0]):=by
 intro w hE hH
 refine E0 func137 I hH ?_
 exact Cs I (Ak I (Cs I (Mv 2 I (Lq I (AP (rmC t 1 0 true false true 0) I I (λw=>by kernel_rfl)) (l_e I (AT I I I I (λbr=>Ce (rmC t 1 0 true false true 0) I (Ak I (Ag (Ao I I (λ_ h=>⟨br,rfl,T0,h⟩)))))))))))
theorem XS (h:x.Ok B) {t:Int} (ht:tkB t) (b:Nat) (m:Ms) (sq:Int) (hsq:(Lit.int .u64 sq).wf) {i:Nat} (hf:x.q.M.frI 0 2=some i) (hlf:(x.q.M.at' i).nd.leaf) (hri:BG (x.q.M.at' i).nd.es) (hri2:BG (Bs (x.q.M.at' i).nd.es m)) (hwr:(x.hm.lat i).wr=t) (hhs:De (x.hm.lat i) t) (hft:Cv (Dd (x.q.M.at' i).nd (m.kA sq hsq))) (hsm2:(Dd (x.q.M.at' i).nd (m.kA sq hsq)).Sm 1000):Con prog 185 [ptV b,ptV x.bh,.int .u64 sq] Tr (WRE b (⟨t,m,3,true,(.pointer none),0⟩:Wr)::x.H) (λy:HQ=>.bool true) (λy=>y.bh=x.bh/\y.Ok B/\y.hm=(x.hm.setN 0 (Dd (x.q.M.at' i).nd (m.kA sq hsq))).leave i t 0) (λy=>WRE b (⟨t,m,5,false,(.pointer none),0⟩:Wr)::y.H):=by
 intro w hE hH
 have hi9:=h.latI hf
 obtain⟨l9,hl9⟩:=hi9
 have hsm:((x.q.M.at' i).nd).Sm 1000:=h.q.ok.es _ (by unfold Mo.at';rw[om];obtain⟨z,hz,_⟩:=C4 (DI hf).1;rw[hz];exact mQ hz)
 refine Ey func185 I hH (Cs I (Ak I (Cs I (Mv 2 I (Lfa U91 I Z86 I (Lo G86 1 I (l_e I (Ee [_] (GG h hf) I call116 Tt (λs _=>Pw (St _ _ (_::_::_::_::_::HQ.H (x))) ?_)))))))))
 refine Mv 3 I (l_e I (Au I I I zeroValue135 (λbn=>Ce nv0.c I (l_e I (SW AU I (NV.one _) (Ak I (Cs I (Mv 2 I (Lfa BX I Bl I (Lq I (Cq ((⟨t,m,3,true,(.pointer none),0⟩:Wr).m.c) Cm Bl 1 I (Wr.m_part _) (Ms.ko _)) (l_e I (Au I I I zeroValue154 (λbm=>Ce ms0.c I (l_e I (Az I I Bl I I (Ms.ko _) (Ms.one _) (by simp only[Ms.ko];decide) (Ce (Ms.c m) (Sep.ku (by simp only[Ms.ko])) (Nk (Cs I (Lm I (Lfa B8 I Z41 I (l_e I (AG I I Z41 I I I (by rw[Ms.ko];decide) (AR (Ms.set_seq m sq hsq) (Nk (Cs I (Lq I (Cq ((⟨s,(x.q.M.at' i).nd⟩:NV).c) Bx AU 1 I (I) (I)) (Lq I (Cq ((m.kA sq hsq).c) Cm Bl 0 I (Br _) (Ms.ko _)) (l_e I (AZ (Il (⟨s,(x.q.M.at' i).nd⟩:NV) (m.kA sq hsq) hlf hri (by show BG (Bs (x.q.M.at' i).nd.es m);exact hri2) (hsm.mono (by decide))) I I I call253 I (λ_ h=>⟨h.rd 3 rfl,h.rd 4 rfl,h.rd 5 rfl,h.rd 6 rfl⟩) ?_)))))))))))))))))))))))))))))
 intro s2 _
 refine Sv' 28 (.tuple #[.agg (⟨⟨s2,s.k,s.p,s.m⟩,Dd (x.q.M.at' i).nd (m.kA sq hsq)⟩:NV).c.toArray,.bool true]) I (by dsimp only;rw[lu (show Cv (Dd (x.q.M.at' i).nd (m.kA sq hsq))=true from hft)]) (Mv 3 I (AX (l_e I (SW AU I (NV.one _) (Ak I (Af (Cs I (Mv 2 I (Nk (Aa I (Ae (Ks (Do8 (rg 7) 1458 (λw2=>(WRE b (⟨t,m,3,true,(.pointer none),0⟩:Wr)).at w2/\(Ad bn 135 (⟨⟨s2,s.k,s.p,s.m⟩,Dd (x.q.M.at' i).nd (m.kA sq hsq)⟩:NV).c).at w2) I St.drawn (H2 3 0 I) (Md 3 I (Dfa BX I Z3 I (Dq I (Al I G3 I (λ_ h=>h.1) I) (Dq I (AQ ((⟨⟨s2,s.k,s.p,s.m⟩,Dd (x.q.M.at' i).nd (m.kA sq hsq)⟩:NV).c) I Bx AU I (λ_ h=>h.2) (I) (I)) ?_)))))))))))))))))
 refine Pm [0,1,2,1] I (d_t I (Ee [_,_,_,_] (fL h ht hf (nv:=(⟨⟨s2,s.k,s.p,s.m⟩,Dd (x.q.M.at' i).nd (m.kA sq hsq)⟩:NV)) hwr (by show FN (Dd (x.q.M.at' i).nd (m.kA sq hsq))=true;unfold FN;rw[lu (show (Dd (x.q.M.at' i).nd (m.kA sq hsq)).leaf=true from hlf)];exact hft) hsm2) I call204 Tt ?_))
 rintro y ⟨hbh,hk,hy⟩
 refine Pw (St _ _ (_::_::_::_::_::_::_::_::HQ.H (y))) ?_
 refine AL (Kt (Cs I (Mv 2 I (Pm [0,0,0,1,1,1,1] I ?_))))
 have hf2:y.q.M.frI 0 2=some i:=by rw[show y.q.M=(x.q.M.setN 0 (Dd (x.q.M.at' i).nd (m.kA sq hsq))).2 from congrArg Hm.M hy];exact Tu hf _
 have hh2:De (y.hm.lat i) t=true:=by rw[hy];exact hhs
 refine Sv' 52 (ptV y.bh) I (by rw[hbh]) (l_e I (Ee [_,_,_,_,_,_,_] (Of hk ht b m (0:Int) hf2 hh2 3 (.pointer none)) I call254 Tt ?_))
 rintro z ⟨hbz,hkz,hz⟩
 refine Pw (St _ _ (_::_::_::_::_::_::_::_::HQ.H z)) ?_
 exact Nk (Cs I (Ak I (Ag (Av (Av (Av (Av (Av (Av (Av (Ao I I (λ_ hh=>⟨z,rfl,⟨by rw[hbz,hbh],hkz,by rw[hz,hy]⟩,hh⟩))))))))))))
theorem XT (h:x.Ok B) {t:Int} (ht:tkB t) (b:Nat) (m:Ms) (sq:Int) (hsq:(Lit.int .u64 sq).wf) {i:Nat} (hf:x.q.M.frI 0 2=some i) (hlf:(x.q.M.at' i).nd.leaf=false) (hri:BE Ms.key (x.q.M.at' i).nd.msgs) (hri2:BE Ms.key (C9 (x.q.M.at' i).nd.msgs (m.kA sq hsq))) (hwr:(x.hm.lat i).wr=t) (hhs:De (x.hm.lat i) t) (hft:GC (Ek (x.q.M.at' i).nd (m.kA sq hsq))) (hsm2:(Ek (x.q.M.at' i).nd (m.kA sq hsq)).Sm 1000):Con prog 185 [ptV b,ptV x.bh,.int .u64 sq] Tr (WRE b (⟨t,m,3,true,(.pointer none),0⟩:Wr)::x.H) (λy:HQ=>.bool true) (λy=>y.bh=x.bh/\y.Ok B/\y.hm=(x.hm.setN 0 (Ek (x.q.M.at' i).nd (m.kA sq hsq))).leave i t 0) (λy=>WRE b (⟨t,m,5,false,(.pointer none),0⟩:Wr)::y.H):=by
 intro w hE hH
 have hi9:=h.latI hf
 obtain⟨l9,hl9⟩:=hi9
 have hsm:((x.q.M.at' i).nd).Sm 1000:=h.q.ok.es _ (by unfold Mo.at';rw[om];obtain⟨z,hz,_⟩:=C4 (DI hf).1;rw[hz];exact mQ hz)
 refine Ey func185 I hH (Cs I (Ak I (Cs I (Mv 2 I (Lfa U91 I Z86 I (Lo G86 1 I (l_e I (Ee [_] (GG h hf) I call116 Tt (λs _=>Pw (St _ _ (_::_::_::_::_::HQ.H (x))) ?_)))))))))
 refine Mv 3 I (l_e I (Au I I I zeroValue135 (λbn=>Ce nv0.c I (l_e I (SW AU I (NV.one _) (Ak I (Cs I (Mv 2 I (Lfa BX I Bl I (Lq I (Cq ((⟨t,m,3,true,(.pointer none),0⟩:Wr).m.c) Cm Bl 1 I (Wr.m_part _) (Ms.ko _)) (l_e I (Au I I I zeroValue154 (λbm=>Ce ms0.c I (l_e I (Az I I Bl I I (Ms.ko _) (Ms.one _) (by simp only[Ms.ko];decide) (Ce (Ms.c m) (Sep.ku (by simp only[Ms.ko])) (Nk (Cs I (Lm I (Lfa B8 I Z41 I (l_e I (AG I I Z41 I I I (by rw[Ms.ko];decide) (AR (Ms.set_seq m sq hsq) (Nk (Cs I (Lq I (Cq ((⟨s,(x.q.M.at' i).nd⟩:NV).c) Bx AU 1 I (I) (I)) (Lq I (Cq ((m.kA sq hsq).c) Cm Bl 0 I (Br _) (Ms.ko _)) (l_e I (AZ (Ma (⟨s,(x.q.M.at' i).nd⟩:NV) (m.kA sq hsq) hlf hri hri2 (hsm.mono (by decide))) I I I call253 I (λ_ h=>⟨h.rd 3 rfl,h.rd 4 rfl,h.rd 5 rfl,h.rd 6 rfl⟩) ?_)))))))))))))))))))))))))))))
 intro s2 _
 refine Sv' 28 (.tuple #[.agg (⟨⟨s.e,s.k,s.p,s2⟩,Ek (x.q.M.at' i).nd (m.kA sq hsq)⟩:NV).c.toArray,.bool true]) I (by dsimp only;rw[lu (show GC (Ek (x.q.M.at' i).nd (m.kA sq hsq))=true from hft)]) (Mv 3 I (AX (l_e I (SW AU I (NV.one _) (Ak I (Af (Cs I (Mv 2 I (Nk (Aa I (Ae (Ks (Do8 (rg 7) 1458 (λw2=>(WRE b (⟨t,m,3,true,(.pointer none),0⟩:Wr)).at w2/\(Ad bn 135 (⟨⟨s.e,s.k,s.p,s2⟩,Ek (x.q.M.at' i).nd (m.kA sq hsq)⟩:NV).c).at w2) I St.drawn (H2 3 0 I) (Md 3 I (Dfa BX I Z3 I (Dq I (Al I G3 I (λ_ h=>h.1) I) (Dq I (AQ ((⟨⟨s.e,s.k,s.p,s2⟩,Ek (x.q.M.at' i).nd (m.kA sq hsq)⟩:NV).c) I Bx AU I (λ_ h=>h.2) (I) (I)) ?_)))))))))))))))))
 refine Pm [0,1,5,1,1,1,1] I (d_t I (Ee [_,_,_,_] (fL h ht hf (nv:=(⟨⟨s.e,s.k,s.p,s2⟩,Ek (x.q.M.at' i).nd (m.kA sq hsq)⟩:NV)) hwr (by show FN (Ek (x.q.M.at' i).nd (m.kA sq hsq))=true;unfold FN;rw[lz (by show ¬(x.q.M.at' i).nd.leaf=true;rw[hlf];decide)];exact hft) hsm2) I call204 Tt ?_))
 rintro y ⟨hbh,hk,hy⟩
 refine Pw (St _ _ (_::_::_::_::_::_::_::_::HQ.H (y))) ?_
 refine AL (Kt (Cs I (Mv 2 I (Pm [0,0,0,1,1,1,1] I ?_))))
 have hf2:y.q.M.frI 0 2=some i:=by rw[show y.q.M=(x.q.M.setN 0 (Ek (x.q.M.at' i).nd (m.kA sq hsq))).2 from congrArg Hm.M hy];exact Tu hf _
 have hh2:De (y.hm.lat i) t=true:=by rw[hy];exact hhs
 refine Sv' 52 (ptV y.bh) I (by rw[hbh]) (l_e I (Ee [_,_,_,_,_,_,_] (Of hk ht b m (0:Int) hf2 hh2 3 (.pointer none)) I call254 Tt ?_))
 rintro z ⟨hbz,hkz,hz⟩
 refine Pw (St _ _ (_::_::_::_::_::_::_::_::HQ.H z)) ?_
 exact Nk (Cs I (Ak I (Ag (Av (Av (Av (Av (Av (Av (Av (Ao I I (λ_ hh=>⟨z,rfl,⟨by rw[hbz,hbh],hkz,by rw[hz,hy]⟩,hh⟩))))))))))))
theorem XU (h:x.Ok B) {t:Int} (b:Nat) (m:Ms) (sq:Int) (hsq:(Lit.int .u64 sq).wf) {i:Nat} (hf:x.q.M.frI 0 2=some i) (hlf:(x.q.M.at' i).nd.leaf) (hri:BG (x.q.M.at' i).nd.es) (hri2:BG (Bs (x.q.M.at' i).nd.es m)) (hft:Cv (Dd (x.q.M.at' i).nd (m.kA sq hsq))=false):Con prog 185 [ptV b,ptV x.bh,.int .u64 sq] Tr (WRE b (⟨t,m,3,true,(.pointer none),0⟩:Wr)::x.H) (λbr:Nat=>.bool false) Tr (λbr=>RME br t 1 true 0::WRE b (⟨t,m,4,true,(ptV br),0⟩:Wr)::x.H):=by
 intro w hE hH
 have hi9:=h.latI hf
 obtain⟨l9,hl9⟩:=hi9
 have hsm:((x.q.M.at' i).nd).Sm 1000:=h.q.ok.es _ (by unfold Mo.at';rw[om];obtain⟨z,hz,_⟩:=C4 (DI hf).1;rw[hz];exact mQ hz)
 refine Ey func185 I hH (Cs I (Ak I (Cs I (Mv 2 I (Lfa U91 I Z86 I (Lo G86 1 I (l_e I (Ee [_] (GG h hf) I call116 Tt (λs _=>Pw (St _ _ (_::_::_::_::_::HQ.H (x))) ?_)))))))))
 refine Mv 3 I (l_e I (Au I I I zeroValue135 (λbn=>Ce nv0.c I (l_e I (SW AU I (NV.one _) (Ak I (Cs I (Mv 2 I (Lfa BX I Bl I (Lq I (Cq ((⟨t,m,3,true,(.pointer none),0⟩:Wr).m.c) Cm Bl 1 I (Wr.m_part _) (Ms.ko _)) (l_e I (Au I I I zeroValue154 (λbm=>Ce ms0.c I (l_e I (Az I I Bl I I (Ms.ko _) (Ms.one _) (by simp only[Ms.ko];decide) (Ce (Ms.c m) (Sep.ku (by simp only[Ms.ko])) (Nk (Cs I (Lm I (Lfa B8 I Z41 I (l_e I (AG I I Z41 I I I (by rw[Ms.ko];decide) (AR (Ms.set_seq m sq hsq) (Nk (Cs I (Lq I (Cq ((⟨s,(x.q.M.at' i).nd⟩:NV).c) Bx AU 1 I (I) (I)) (Lq I (Cq ((m.kA sq hsq).c) Cm Bl 0 I (Br _) (Ms.ko _)) (l_e I (AZ (Il (⟨s,(x.q.M.at' i).nd⟩:NV) (m.kA sq hsq) hlf hri (by show BG (Bs (x.q.M.at' i).nd.es m);exact hri2) (hsm.mono (by decide))) I I I call253 I (λ_ h=>⟨h.rd 3 rfl,h.rd 4 rfl,h.rd 5 rfl,h.rd 6 rfl⟩) ?_)))))))))))))))))))))))))))))
 intro s2 _
 refine Sv' 28 (.tuple #[.agg (⟨s,(x.q.M.at' i).nd⟩:NV).c.toArray,.bool false]) I (by dsimp only;rw[lz (show ¬Cv (Dd (x.q.M.at' i).nd (m.kA sq hsq))=true from by rw[hft];decide)]) (Mv 3 I (AX (l_e I (SW AU I (NV.one _) (Ak I (Af (Cs I (Mv 2 I (Nk (Ah I (Cs I (Mv 4 I (Lfa BX I Z3 I (Lo G3 3 I (l_e I (AZ (iZ t) I I I call137 I Tt (λbr _=>Lc I (Lfa BX I Z3 I (C0 (l_e I (AG I I Z3 I I I (by rw[Wr.ko];decide) (Ce ((⟨t,m,4,true,(.pointer none),0⟩:Wr)).c (Wr.set_mid (j:=0) I I I) (Lc I (Lfa BX I Rc I (l_e I (AG I I Rc I I I (by rw[Wr.ko];decide) (Ce ((⟨t,m,4,true,(ptV br),0⟩:Wr)).c (Wr.set_mid (j:=2) I I I) (Nk (Cs I (Ak I (Ag (Ac (Pm [1,0,7,7,7,7,7,7] I ?_)))))))))))))))))))))))))))))))))
 exact Pm [8,9,8,8,8,8,8] I (Av (Av (Av (Av (Av (Av (Av (Ao I I (λ_ hh=>⟨br,rfl,T0,hh⟩)))))))))
section
variable {n:Nat} {L:Env} {X:World->Prop}
theorem jS {δ ε ζ η:Type} {G:Act->World->Prop} (Lv:α->β->γ->δ->ε->ζ->η->Env) (Xv:α->β->γ->δ->ε->ζ->η->World->Prop) (h1:(∀a b c d e f g,Pre n (Lv a b c d e f g) (Xv a b c d e f g) G)->Pre n L X F) (h2:∀a b c d e f g,Pre n (Lv a b c d e f g) (Xv a b c d e f g) G):Pre n L X F:=h1 h2
end
section
variable {P:Program} {n:Nat} {L:Env} {X:World->Prop} {Q:Exit->Act->World->Prop} {S:World->Prop} {l:List Oper} {listed:Array Bool} {k:Nat}
theorem fY {o1 o2 o3 o4:Oper} (i1 i2 i3 i4:Nat) (hr:Region.ready .any l.toArray listed=[i1,i2,i3,i4]) (h1:l[i1]?=some o1) (h2:l[i2]?=some o2) (h3:l[i3]?=some o3) (h4:l[i4]?=some o4) (w1:B0 l.toArray L o1=some true) (w2:B0 l.toArray L o2=some true) (w3:B0 l.toArray L o3=some true) (w4:B0 l.toArray L o4=some true)
 (g1:EOp P n L X o1 Q (DZ P l Q S k listed i1)) (g2:EOp P n L X o2 Q (DZ P l Q S k listed i2)) (g3:EOp P n L X o3 Q (DZ P l Q S k listed i3)) (g4:EOp P n L X o4 Q (DZ P l Q S k listed i4)):Pre n L X (wpAnyH P .any l.toArray Q S (k+1) listed):=λa w kn x =>
 wpAnyH_all hr (by simp) (λj hj=>by
  simp only[kN,nt,nu] at hj
  rcases hj with rfl|rfl|rfl|rfl
  .exact LX h1 w1 g1 a w kn x
  .exact LX h2 w2 g2 a w kn x
  .exact LX h3 w3 g3 a w kn x
  .exact LX h4 w4 g4 a w kn x)
end
section
variable {P:Program} {n:Nat} {L:Env} {o:Oper} {Q:Exit->Act->World->Prop} {K:Act->World->Prop} {w0:World} {D:List Nat}
theorem BV {v:β->Value} {p:β->Prop} {F:List Ent} {HB:β->List Ent} (s:Con P f vs E [] v p HB) (ho:o.op=.call ⟨.value (.func f),xs.toArray,ts⟩) (hd:o.dst=some d) (hn:d.blt n)
 (hc:∀us w,(callFunc f us).run P w=.ok (.enter f us) w) (hv:evs L xs=some vs) (hE:∀w,St w0 D F w->E w) (h:∀b,p b->Pre n ((d,v b)::L) (St w0 D (HB b++F)) K):EOp P n L (St w0 D F) o Q K :=
 DO ho hd hn hc hv (λw x=>s.frame (F:=F) x (hE w x)) h
end
theorem bI (br:Nat) (t a0:Int) (vh:Value):Con prog 206 [ptV br,vh] Tr [Ad br 249 (rmC t a0 0 true false true 0)] (λ_:Unit=>.tuple #[]) Tr (λ_=>[Ad br 249 (rmC t a0 0 false false true 0)]):=by
 intro w hE hH
 refine Ey func206 I hH (Cs I (Mv 2 I (Lfa Dx I Z4 I (l_e I (AG I I Z4 I I I (ng I) (Ce (rmC t a0 0 false false true 0) I (Ns (Cs I (Mv 2 I (Lfa Dx I Z3 I (Lo G3 0 I (Lq I (Qe I) (Nk (Sb 11 true I (I) (Ah I (Af (Cs I (Mv 2 I (Lfa Dx I Z4 I (Lo G4 0 I (Nk ?_)))))))))))))))))))))
 exact Ah I (Ag (Ac (Ac (BB I (λ_ h=>⟨(),rfl,T0,h⟩)))))
theorem dX (br:Nat) (t a0 e:Int) (vh:Value):Con prog 201 [ptV br,vh,.int .i64 e] Tr [Ad br 249 (rmC t a0 0 true false true 0)] (λ_:Unit=>.tuple #[]) Tr (λ_=>[Ad br 249 (rmC t 11 0 false false true e)]):=by
 intro w hE hH
 refine Ey func201 I hH ?_
 exact Cs I (Mv 2 I (l_e I (Bf (bI br t a0 vh) I I I call206 I Tt (λ_ _=>Nk (Cr I (Mv 4 I (Lfa Dx I Z3 I (l_e I (AG I I Z3 I I I (ng I) (Ce (rmC t 11 0 false false true 0) I (Lc I (Lfa Dx I Z44 I (l_e I (AG I I Z44 I I I (ng I) (Ce (rmC t 11 0 false false true e) I (AB (Bp (BB I (λ_ h=>⟨(),rfl,T0,h⟩)))))))))))))))))))
theorem XV (br:Nat) (t:Int) (vh:Value) (nv:NV) (hlf:nv.d.leaf) (hlen:2<=nv.s.e.n):Con prog 138 [ptV br,vh,.agg nv.c.toArray] Tr [Ad br 249 (rmC t 1 0 true false true 0)] (λ_:Unit=>.tuple #[]) Tr (λ_=>[Ad br 249 (rmC t 6 0 true false true 0)]):=by
 intro w hE hH
 refine Ey func138 I hH ?_
 refine Cs I (l_e I (AT I I I I (λbn=>Ce nv.c I (Nk (Cs I (Lq I (Cq (nv.c) Bx AU 0 I (I) (I)) (l_e I (E1 (KS nv hlf) I call200 Tt (λ_ _=>Ak I (Aj (Cs I (Mv 2 I (Lfa Dx I Z3 I (Lo G3 1 I (Mv 2 I (Sb 26 true I (by first|rfl|exact hlf|(exact oc (by omega))|(simp only[m5];omega)) (Lfa Cu I Z4 I (Lo G4 0 I (Mv 2 I (Sb 30 true I (hlf) (Lfa Cu I Z49 I (Lo G49 0 I (Lq I (EL I U49 I) (Mv 2 I (Ak I (Sb 20 false I (by first|rfl|exact hlf|(exact oc (by omega))|(simp only[m5];omega)) (Aa I (Cs I ?_))))))))))))))))))))))))))))
 refine Mv 2 I (Lfa Dx I Z3 I (Lo G3 1 I (Mv 2 I (Sb 45 true I (by first|rfl|exact hlf|(exact oc (by omega))|(simp only[m5];omega)) (Lfa Cu I Z4 I (Lo G4 0 I (Lm I (Sb 48 true I (hlf) (Mv 6 I (Ak I (Ah I (Cr I (Mv 2 I (Lfa Dx I Z3 I (AM ?_)))))))))))))))
 exact l_e I (AG I I Z3 I I I (ng I) (Ce (rmC t 6 0 true false true 0) I (AB (Aw (Bp (AM (Av (BB I (λ_ h=>⟨(),rfl,T0,h⟩)))))))))
theorem Tv (h:x.Ok B) {t:Int} (ht:tkB t) (br:Nat) (a0 to:Int) (hB:B+1<=60000) (hcy:(x.hm.claim t).1):Con prog 140 [ptV br,ptV x.bh,.int .i64 to] Tr (Ad br 249 (rmC t a0 0 true false true 0)::x.H) (λy:HQ=>.tuple #[]) (λy=>y.bh=x.bh/\y.Ok (B+1)/\y.hm=(x.hm.claim t).2) (λy=>Ad br 249 (rmC t to 0 true false true 0)::y.H):=by
 intro w hE hH
 refine Ey func140 I hH (Af (Do8 (rg 9) 13122 (λw2=>(Ad br 249 (rmC t a0 0 true false true 0)).at w2/\(Ad x.bh 91 x.cells).at w2) I St.drawn (H2 0 1 I) (Md 2 I (Dfa U91 I Z86 I (Dq I (Al I G86 I (λ_ h=>h.2) I) (Md 2 I (Dfa Dx I Z3 I (Dq I (Al I G3 I (λ_ h=>h.1) I) (d_t I (Ee [_] (fN h hB t) I call207 Tt ?_))))))))))
 rintro y ⟨hbh,hbc,hk,hy⟩
 refine Pw (St _ _ (_::HQ.H (y))) ?_
 exact Sv' 14 (.bool true) I (by rw[hcy]) (AL (Kt (Ah I (Cr I (Mv 3 I (Lfa Dx I Z3 I (l_e I (AG I I Z3 I I I (ng I) (Ce (rmC t to 0 true false true 0) I (AB (Bp (BB I (λ_ hh=>⟨y,rfl,⟨hbh,hk,hy⟩,hh⟩)))))))))))))
theorem Vj (h:x.Ok B) {t:Int} (ht:tkB t) (br:Nat) (a0:Int) (nv:NV) (hcl:2<=x.q.M.claims t) (hls:x.s.left<2):Con prog 142 [ptV br,ptV x.bh,.agg nv.c.toArray] Tr (Ad br 249 (rmC t a0 0 true false true 0)::x.H) (λy:HQ=>.tuple #[]) (λy=>y.bh=x.bh/\y.Ok B/\y.hm=x.hm.give t) (λy=>Ad br 249 (rmC t 11 0 false false true 3)::y.H):=by
 intro w hE hH
 refine Ey func142 I hH (Cs I (l_e I (AT I I I I (λbn=>Ce nv.c I (Nk (Cs I (Mv 3 I (Lfa Dx I Z3 I (Lo G3 1 I (l_e I (Ee [_,_] (Vg h ht (n:=2) (by decide) (by decide) hcl hls) I call208 Tt ?_)))))))))))
 rintro y ⟨hbh,hk,hy⟩
 refine Pw (St _ _ (_::_::HQ.H (y))) ?_
 exact Mv 4 I (Ak I (Af (Cs I (Mv 2 I (Nk (Ah I (Cs I (Mv 2 I (Pm [1] I (l_e I (Bf (dX br t a0 3 _) I I I call201 I Tt (λ_ _=>Nk (Ag (Ac (AM (Av (BB I (λ_ hh=>⟨y,rfl,⟨hbh,hk,hy⟩,hh⟩))))))))))))))))))
def pkL (H:List Ent):List Nat->List Ent->Option (List Ent)
 |[],r=>some r
 |i::is,r=>match H[i]? with
  |some x=>match pkL H is r with
   |some l=>some (x::l)
   |none=>none
  |none=>none
theorem pkE {H:List Ent}:∀{is:List Nat} {r l:List Ent},pkL H is r=some l->l=is.filterMap (λi=>H[i]?)++r
 |[],r,l,h=>by cases h;rfl
 |i::is,r,l,h=>by
  unfold pkL at h
  cases hx:H[i]? with
  |none=>rw[hx] at h;cases h
  |some x =>
   rw[hx] at h
   dsimp only at h
   cases hr:pkL H is r with
   |none=>rw[hr] at h;cases h
   |some q =>
    rw[hr] at h
    cases h
    rw[List.filterMap_cons,hx,pkE hr];rfl
theorem tkF (H:List Ent):∀n,(List.range n).filterMap (λi=>H[i]?)=H.take n
 |0=>rfl
 |n+1=>by
  rw[oL,List.filterMap_append,tkF H n,nT]
  cases h:H[n]? with
  |none=>simp[h]
  |some x=>simp[h]
theorem Pnn {w0:World} {D:List Nat} {H:List Ent} (k:Nat) (is:List Nat) (h1:(is.isPerm (List.range k),pkL H is (H.drop k))=(true,some H')) (h:Pre n L (St w0 D H') F):Pre n L (St w0 D H) F:=by
 simp only[Prod.mk.injEq] at h1
 refine h.world _ (λ_ s=>s.perm ?_)
 rw[pkE h1.2]
 have e:H=(List.range k).filterMap (λi=>H[i]?)++H.drop k:=by rw[tkF,my]
 exact (List.Perm.of_eq e).trans ((((List.isPerm_iff.1 h1.1).symm).filterMap _).append_right _)
theorem Pzz {L':Env} {X:World->Prop} (h:Pre n L' X F) (s:L'.map (λp=>Sep.look L p.1)=L'.map (λp=>some p.2)):Pre n L X F:=Pre.sub _ (Si s) h
theorem RR {x:HQ} {B:Nat} (h:x.Ok B) {t:Int} (ht:tkB t=true) (br:Nat) (a0:Int) (nv:NV) (hlf:nv.d.leaf=true) (hbd:∀e∈nv.d.es,e.Bd) (h2l:2<=nv.d.es.length) (hpos:0<lby nv.d.es) (hn3:nv.d.es.length<=30000) (hcl:2<=x.q.M.claims t) (hls:2<=x.s.left) (hal:∀j,j<2->∃k,(x.s.al j).2.fr=some k) {ka kb:Nat} (hal2:(x.s.al 2).1=[ka,kb]) (hne:ka≠kb) (hia:idB ka=true) (hib:idB kb=true) (hua:(x.s.al 2).2.us[ka]?=some true) (hub:(x.s.al 2).2.us[kb]?=some true) {i:Nat} (hf:x.q.M.frI 0 2=some i) (hwr:(x.hm.lat i).wr=t) (hfr:FN ⟨false,[],[(ka:Int),(kb:Int)],[kyS nv],[]⟩=true) (hsr:(⟨false,[],[(ka:Int),(kb:Int)],[kyS nv],[]⟩:Nd).Sm 1000) (hfx:FN (lfN (tkS nv))=true) (hsx:(lfN (tkS nv)).Sm 1000) (hfy:FN (lfN (dpS nv))=true) (hsy:(lfN (dpS nv)).Sm 1000):Con prog 142 [ptV br,ptV x.bh,.agg nv.c.toArray] Tr (Bv nv.s.e nv.d.es::BY nv.s.k nv.d.kids::CF nv.s.p nv.d.piv::EN nv.s.m nv.d.msgs::Ad br 249 (rmC t a0 0 true false true 0)::x.H) (λy:HQ=>.tuple #[]) (λy=>y.bh=x.bh/\y.Ok B/\y.hm=((({x.hm with s:=(x.s.al 2).2}:Hm).setN 0 ⟨false,[],[(ka:Int),(kb:Int)],[kyS nv],[]⟩).name t ka (lfN (tkS nv))).name t kb (lfN (dpS nv))) (λy=>Ad br 249 (rmC t 11 0 false false true 0)::y.H):=by
 intro w hE hH
 have hl2:nI2 (x.s.al 2).1=[(ka:Int),(kb:Int)]:=by rw[hal2];rfl
 refine Ey func142 I hH (Cs I (l_e I (AT I I I I (λbn=>Ce nv.c I (Nk (Cs I (Mv 3 I (Lfa Dx I Z3 I (Lo G3 5 I (l_e I (Ee [_,_,_,_,_,_] (RN h ht (n:=2) (by decide) (by decide) hcl hls hal) I call208 Tt ?_)))))))))))
 rintro⟨vl,y⟩ ⟨hbh,hk,hy⟩
 refine Pw (St _ _ (_::_::_::_::_::_::_::HQ.H (y))) ?_
 refine Mv 4 I (Ak I (Af (Cs I (Mv 2 I (Nk (Aa I (Ae (Ks (Af ?_)))))))))
 dsimp only at hbh hk hy
 have hln:(nI2 (x.s.al 2).1).length=2:=by rw[hl2];rfl
 refine Pm [6] I (Fo (λw2=>(Ad bn 135 nv.c).at w2/\RdV w2 vl (AH .i64) (nI2 (x.s.al 2).1)) I St.drawn (Aq 0 I (Hb 1 0 I) (AQ (nv.c) I Bx AU I (λ_ h=>h.1) (I) (I)) (Aq 1 I (Hb 1 0 I) (Bi I I) (Aq 2 I (Hb 1 0 I) (Ar 0 I U22 Z3 I (λ_ h=>h.2) I I) (Aq 3 I (Hb 1 0 I) (AI 0 0 I G3 I I (λ_ h=>h.2) (show (nI2 (x.s.al 2).1)[0]?=some (ka:Int) by rw[hl2];rfl) I) (Aq 4 I (Hb 1 0 I) (Bi I I) (Aq 5 I (Hb 1 0 I) (Ar 1 I U22 Z3 I (λ_ h=>h.2) I I) (Aq 6 I (Hb 1 0 I) (AI 1 0 I G3 I I (λ_ h=>h.2) (show (nI2 (x.s.al 2).1)[1]?=some (kb:Int) by rw[hl2];rfl) I) ?_))))))))
 with_reducible apply jS (λ(s1 s2 s3 s4:Sv) (b8 b9 b10:Nat)=>[(0,ptV br),(1,ptV x.bh),(6,vl),(8,pV b8),(9,pV b9),(10,pV b10),(35,.agg (⟨⟨sv0,s3,s4,sv0⟩,⟨false,[],[(ka:Int),(kb:Int)],[kyS nv],[]⟩⟩:NV).c.toArray),(36,.agg (lfV s1 (tkS nv)).c.toArray),(37,.agg (lfV s2 (dpS nv)).c.toArray),(38,.bool true)]) (λ(s1 s2 s3 s4:Sv) (b8 b9 b10:Nat)=>St w (dom (Bv nv.s.e nv.d.es::BY nv.s.k nv.d.kids::CF nv.s.p nv.d.piv::EN nv.s.m nv.d.msgs::Ad br 249 (rmC t a0 0 true false true 0)::x.H)) (Bv s1 (tkS nv)::Bv s2 (dpS nv)::BY s3 [(ka:Int),(kb:Int)]::CF s4 [kyS nv]::Ad b8 135 nv0.c::Ad b9 135 nv0.c::Ad b10 135 nv0.c::AA vl 3 (AH .i64) (nI2 (x.s.al 2).1)::Ad bn 135 nv.c::Bv nv.s.e nv.d.es::BY nv.s.k nv.d.kids::CF nv.s.p nv.d.piv::EN nv.s.m nv.d.msgs::Ad br 249 (rmC t a0 0 true false true 0)::HQ.H y))
 .intro K
  refine fY 7 13 14 15 (by kernel_rfl) I I I I I I I I ?_ ?_ ?_ ?_
  .refine BV (BK nv hlf (ka:Int) (kb:Int) (by omega) hia hib hbd h2l hpos hn3) I I I call212 I (λw2 h2=>⟨h2.rd 2 rfl,h2.rd 3 rfl,h2.rd 4 rfl,h2.rd 5 rfl⟩) ?_
   rintro⟨s1,s2,s3,s4⟩ _
   refine Pw (St _ _ (Bv s1 (tkS nv)::Bv s2 (dpS nv)::BY s3 [(ka:Int),(kb:Int)]::CF s4 [kyS nv]::_)) ?_
   refine Ai (Hb 5 4 I) (Aq 8 I (Hb 5 4 I) (Bi I I) (Aq 9 I (Hb 5 4 I) (Qx I) (Aq 10 I (Hb 5 4 I) (Qx I) (Aq 11 I (Hb 5 4 I) (Qx I) (Aq 12 I (Hb 5 4 I) (Qx I) (IJ 13 14 15 (by kernel_rfl) I I I I I I ?_ ?_ ?_))))))
   .refine Au I I I zeroValue135 (λb8=>Ce nv0.c I (Ai (Hb 6 5 I) (Ay2 14 15 I ?_ ?_)))
    .exact Au I I I zeroValue135 (λb9=>Ce nv0.c I (Ai (Hb 7 6 I) (Ay 15 I (Au I I I zeroValue135 (λb10=>Ce nv0.c I (Ai (Hb 8 7 I) (Pm [3,3,3,3,2,1] I (Pzz (K s1 s2 s3 s4 b8 b9 b10) I))))))))
    .exact Au I I I zeroValue135 (λb10=>Ce nv0.c I (Ai (Hb 7 6 I) (Ay 14 I (Au I I I zeroValue135 (λb9=>Ce nv0.c I (Ai (Hb 8 7 I) (Pm [3,3,3,3,2] I (Pzz (K s1 s2 s3 s4 b8 b9 b10) I))))))))
   .refine Au I I I zeroValue135 (λb9=>Ce nv0.c I (Ai (Hb 6 5 I) (Ay2 13 15 I ?_ ?_)))
    .exact Au I I I zeroValue135 (λb8=>Ce nv0.c I (Ai (Hb 7 6 I) (Ay 15 I (Au I I I zeroValue135 (λb10=>Ce nv0.c I (Ai (Hb 8 7 I) (Pm [3,3,3,3,1,1] I (Pzz (K s1 s2 s3 s4 b8 b9 b10) I))))))))
    .exact Au I I I zeroValue135 (λb10=>Ce nv0.c I (Ai (Hb 7 6 I) (Ay 13 I (Au I I I zeroValue135 (λb8=>Ce nv0.c I (Ai (Hb 8 7 I) (Pm [3,3,3,3,0,1] I (Pzz (K s1 s2 s3 s4 b8 b9 b10) I))))))))
   .refine Au I I I zeroValue135 (λb10=>Ce nv0.c I (Ai (Hb 6 5 I) (Ay2 13 14 I ?_ ?_)))
    .exact Au I I I zeroValue135 (λb8=>Ce nv0.c I (Ai (Hb 7 6 I) (Ay 14 I (Au I I I zeroValue135 (λb9=>Ce nv0.c I (Ai (Hb 8 7 I) (Pm [3,3,3,3,1] I (Pzz (K s1 s2 s3 s4 b8 b9 b10) I))))))))
    .exact Au I I I zeroValue135 (λb9=>Ce nv0.c I (Ai (Hb 7 6 I) (Ay 13 I (Au I I I zeroValue135 (λb8=>Ce nv0.c I (Ai (Hb 8 7 I) (Pm [3,3,3,3] I (Pzz (K s1 s2 s3 s4 b8 b9 b10) I))))))))
  .refine Au I I I zeroValue135 (λb8=>Ce nv0.c I (Ai (Hb 2 1 I) (IJ 7 14 15 (by kernel_rfl) I I I I I I ?_ ?_ ?_)))
   .refine BV (BK nv hlf (ka:Int) (kb:Int) (by omega) hia hib hbd h2l hpos hn3) I I I call212 I (λw2 h2=>⟨h2.rd 3 rfl,h2.rd 4 rfl,h2.rd 5 rfl,h2.rd 6 rfl⟩) ?_
    rintro⟨s1,s2,s3,s4⟩ _
    refine Pw (St _ _ (Bv s1 (tkS nv)::Bv s2 (dpS nv)::BY s3 [(ka:Int),(kb:Int)]::CF s4 [kyS nv]::_)) ?_
    refine Ai (Hb 6 5 I) (Aq 8 I (Hb 6 5 I) (Bi I I) (Aq 9 I (Hb 6 5 I) (Qx I) (Aq 10 I (Hb 6 5 I) (Qx I) (Aq 11 I (Hb 6 5 I) (Qx I) (Aq 12 I (Hb 6 5 I) (Qx I) (Ay2 14 15 I ?_ ?_))))))
    .exact Au I I I zeroValue135 (λb9=>Ce nv0.c I (Ai (Hb 7 6 I) (Ay 15 I (Au I I I zeroValue135 (λb10=>Ce nv0.c I (Ai (Hb 8 7 I) (Pm [2,2,2,2,2,1] I (Pzz (K s1 s2 s3 s4 b8 b9 b10) I))))))))
    .exact Au I I I zeroValue135 (λb10=>Ce nv0.c I (Ai (Hb 7 6 I) (Ay 14 I (Au I I I zeroValue135 (λb9=>Ce nv0.c I (Ai (Hb 8 7 I) (Pm [2,2,2,2,2] I (Pzz (K s1 s2 s3 s4 b8 b9 b10) I))))))))
   .refine Au I I I zeroValue135 (λb9=>Ce nv0.c I (Ai (Hb 3 2 I) (Ay2 7 15 I ?_ ?_)))
    .refine BV (BK nv hlf (ka:Int) (kb:Int) (by omega) hia hib hbd h2l hpos hn3) I I I call212 I (λw2 h2=>⟨h2.rd 4 rfl,h2.rd 5 rfl,h2.rd 6 rfl,h2.rd 7 rfl⟩) ?_
     rintro⟨s1,s2,s3,s4⟩ _
     refine Pw (St _ _ (Bv s1 (tkS nv)::Bv s2 (dpS nv)::BY s3 [(ka:Int),(kb:Int)]::CF s4 [kyS nv]::_)) ?_
     exact Ai (Hb 7 6 I) (Aq 8 I (Hb 7 6 I) (Bi I I) (Aq 9 I (Hb 7 6 I) (Qx I) (Aq 10 I (Hb 7 6 I) (Qx I) (Aq 11 I (Hb 7 6 I) (Qx I) (Aq 12 I (Hb 7 6 I) (Qx I) (Ay 15 I (Au I I I zeroValue135 (λb10=>Ce nv0.c I (Ai (Hb 8 7 I) (Pm [1,1,1,1,2,1] I (Pzz (K s1 s2 s3 s4 b8 b9 b10) I)))))))))))
    .refine Au I I I zeroValue135 (λb10=>Ce nv0.c I (Ai (Hb 4 3 I) (Ay 7 I (BV (BK nv hlf (ka:Int) (kb:Int) (by omega) hia hib hbd h2l hpos hn3) I I I call212 I (λw2 h2=>⟨h2.rd 5 rfl,h2.rd 6 rfl,h2.rd 7 rfl,h2.rd 8 rfl⟩) ?_))))
     rintro⟨s1,s2,s3,s4⟩ _
     refine Pw (St _ _ (Bv s1 (tkS nv)::Bv s2 (dpS nv)::BY s3 [(ka:Int),(kb:Int)]::CF s4 [kyS nv]::_)) ?_
     refine Ai (Hb 8 7 I) (Aq 8 I (Hb 8 7 I) (Bi I I) (Aq 9 I (Hb 8 7 I) (Qx I) (Aq 10 I (Hb 8 7 I) (Qx I) (Aq 11 I (Hb 8 7 I) (Qx I) (Aq 12 I (Hb 8 7 I) (Qx I) (Pnn 20 [2,3,6,5,4,7,8,9,10,11,12,13,14,15,16,17,18,19,0,1] I ?_))))))
     exact Pm [18,18] I (Pzz (K s1 s2 s3 s4 b8 b9 b10) I)
   .refine Au I I I zeroValue135 (λb10=>Ce nv0.c I (Ai (Hb 3 2 I) (Ay2 7 14 I ?_ ?_)))
    .refine BV (BK nv hlf (ka:Int) (kb:Int) (by omega) hia hib hbd h2l hpos hn3) I I I call212 I (λw2 h2=>⟨h2.rd 4 rfl,h2.rd 5 rfl,h2.rd 6 rfl,h2.rd 7 rfl⟩) ?_
     rintro⟨s1,s2,s3,s4⟩ _
     refine Pw (St _ _ (Bv s1 (tkS nv)::Bv s2 (dpS nv)::BY s3 [(ka:Int),(kb:Int)]::CF s4 [kyS nv]::_)) ?_
     exact Ai (Hb 7 6 I) (Aq 8 I (Hb 7 6 I) (Bi I I) (Aq 9 I (Hb 7 6 I) (Qx I) (Aq 10 I (Hb 7 6 I) (Qx I) (Aq 11 I (Hb 7 6 I) (Qx I) (Aq 12 I (Hb 7 6 I) (Qx I) (Ay 14 I (Au I I I zeroValue135 (λb9=>Ce nv0.c I (Ai (Hb 8 7 I) (Pm [1,1,1,1,2] I (Pzz (K s1 s2 s3 s4 b8 b9 b10) I)))))))))))
    .refine Au I I I zeroValue135 (λb9=>Ce nv0.c I (Ai (Hb 4 3 I) (Ay 7 I (BV (BK nv hlf (ka:Int) (kb:Int) (by omega) hia hib hbd h2l hpos hn3) I I I call212 I (λw2 h2=>⟨h2.rd 5 rfl,h2.rd 6 rfl,h2.rd 7 rfl,h2.rd 8 rfl⟩) ?_))))
     rintro⟨s1,s2,s3,s4⟩ _
     refine Pw (St _ _ (Bv s1 (tkS nv)::Bv s2 (dpS nv)::BY s3 [(ka:Int),(kb:Int)]::CF s4 [kyS nv]::_)) ?_
     refine Ai (Hb 8 7 I) (Aq 8 I (Hb 8 7 I) (Bi I I) (Aq 9 I (Hb 8 7 I) (Qx I) (Aq 10 I (Hb 8 7 I) (Qx I) (Aq 11 I (Hb 8 7 I) (Qx I) (Aq 12 I (Hb 8 7 I) (Qx I) (Pnn 20 [2,3,6,4,5,7,8,9,10,11,12,13,14,15,16,17,18,19,0,1] I ?_))))))
     exact Pm [18,18] I (Pzz (K s1 s2 s3 s4 b8 b9 b10) I)
  .refine Au I I I zeroValue135 (λb9=>Ce nv0.c I (Ai (Hb 2 1 I) (IJ 7 13 15 (by kernel_rfl) I I I I I I ?_ ?_ ?_)))
   .refine BV (BK nv hlf (ka:Int) (kb:Int) (by omega) hia hib hbd h2l hpos hn3) I I I call212 I (λw2 h2=>⟨h2.rd 3 rfl,h2.rd 4 rfl,h2.rd 5 rfl,h2.rd 6 rfl⟩) ?_
    rintro⟨s1,s2,s3,s4⟩ _
    refine Pw (St _ _ (Bv s1 (tkS nv)::Bv s2 (dpS nv)::BY s3 [(ka:Int),(kb:Int)]::CF s4 [kyS nv]::_)) ?_
    refine Ai (Hb 6 5 I) (Aq 8 I (Hb 6 5 I) (Bi I I) (Aq 9 I (Hb 6 5 I) (Qx I) (Aq 10 I (Hb 6 5 I) (Qx I) (Aq 11 I (Hb 6 5 I) (Qx I) (Aq 12 I (Hb 6 5 I) (Qx I) (Ay2 13 15 I ?_ ?_))))))
    .exact Au I I I zeroValue135 (λb8=>Ce nv0.c I (Ai (Hb 7 6 I) (Ay 15 I (Au I I I zeroValue135 (λb10=>Ce nv0.c I (Ai (Hb 8 7 I) (Pm [2,2,2,2,1,1] I (Pzz (K s1 s2 s3 s4 b8 b9 b10) I))))))))
    .exact Au I I I zeroValue135 (λb10=>Ce nv0.c I (Ai (Hb 7 6 I) (Ay 13 I (Au I I I zeroValue135 (λb8=>Ce nv0.c I (Ai (Hb 8 7 I) (Pm [2,2,2,2,0,1] I (Pzz (K s1 s2 s3 s4 b8 b9 b10) I))))))))
   .refine Au I I I zeroValue135 (λb8=>Ce nv0.c I (Ai (Hb 3 2 I) (Ay2 7 15 I ?_ ?_)))
    .refine BV (BK nv hlf (ka:Int) (kb:Int) (by omega) hia hib hbd h2l hpos hn3) I I I call212 I (λw2 h2=>⟨h2.rd 4 rfl,h2.rd 5 rfl,h2.rd 6 rfl,h2.rd 7 rfl⟩) ?_
     rintro⟨s1,s2,s3,s4⟩ _
     refine Pw (St _ _ (Bv s1 (tkS nv)::Bv s2 (dpS nv)::BY s3 [(ka:Int),(kb:Int)]::CF s4 [kyS nv]::_)) ?_
     exact Ai (Hb 7 6 I) (Aq 8 I (Hb 7 6 I) (Bi I I) (Aq 9 I (Hb 7 6 I) (Qx I) (Aq 10 I (Hb 7 6 I) (Qx I) (Aq 11 I (Hb 7 6 I) (Qx I) (Aq 12 I (Hb 7 6 I) (Qx I) (Ay 15 I (Au I I I zeroValue135 (λb10=>Ce nv0.c I (Ai (Hb 8 7 I) (Pm [1,1,1,1,1,1] I (Pzz (K s1 s2 s3 s4 b8 b9 b10) I)))))))))))
    .refine Au I I I zeroValue135 (λb10=>Ce nv0.c I (Ai (Hb 4 3 I) (Ay 7 I (BV (BK nv hlf (ka:Int) (kb:Int) (by omega) hia hib hbd h2l hpos hn3) I I I call212 I (λw2 h2=>⟨h2.rd 5 rfl,h2.rd 6 rfl,h2.rd 7 rfl,h2.rd 8 rfl⟩) ?_))))
     rintro⟨s1,s2,s3,s4⟩ _
     refine Pw (St _ _ (Bv s1 (tkS nv)::Bv s2 (dpS nv)::BY s3 [(ka:Int),(kb:Int)]::CF s4 [kyS nv]::_)) ?_
     refine Ai (Hb 8 7 I) (Aq 8 I (Hb 8 7 I) (Bi I I) (Aq 9 I (Hb 8 7 I) (Qx I) (Aq 10 I (Hb 8 7 I) (Qx I) (Aq 11 I (Hb 8 7 I) (Qx I) (Aq 12 I (Hb 8 7 I) (Qx I) (Pnn 20 [2,3,5,6,4,7,8,9,10,11,12,13,14,15,16,17,18,19,0,1] I ?_))))))
     exact Pm [18,18] I (Pzz (K s1 s2 s3 s4 b8 b9 b10) I)
   .refine Au I I I zeroValue135 (λb10=>Ce nv0.c I (Ai (Hb 3 2 I) (Ay2 7 13 I ?_ ?_)))
    .refine BV (BK nv hlf (ka:Int) (kb:Int) (by omega) hia hib hbd h2l hpos hn3) I I I call212 I (λw2 h2=>⟨h2.rd 4 rfl,h2.rd 5 rfl,h2.rd 6 rfl,h2.rd 7 rfl⟩) ?_
     rintro⟨s1,s2,s3,s4⟩ _
     refine Pw (St _ _ (Bv s1 (tkS nv)::Bv s2 (dpS nv)::BY s3 [(ka:Int),(kb:Int)]::CF s4 [kyS nv]::_)) ?_
     exact Ai (Hb 7 6 I) (Aq 8 I (Hb 7 6 I) (Bi I I) (Aq 9 I (Hb 7 6 I) (Qx I) (Aq 10 I (Hb 7 6 I) (Qx I) (Aq 11 I (Hb 7 6 I) (Qx I) (Aq 12 I (Hb 7 6 I) (Qx I) (Ay 13 I (Au I I I zeroValue135 (λb8=>Ce nv0.c I (Ai (Hb 8 7 I) (Pm [1,1,1,1,0,1] I (Pzz (K s1 s2 s3 s4 b8 b9 b10) I)))))))))))
    .refine Au I I I zeroValue135 (λb8=>Ce nv0.c I (Ai (Hb 4 3 I) (Ay 7 I (BV (BK nv hlf (ka:Int) (kb:Int) (by omega) hia hib hbd h2l hpos hn3) I I I call212 I (λw2 h2=>⟨h2.rd 5 rfl,h2.rd 6 rfl,h2.rd 7 rfl,h2.rd 8 rfl⟩) ?_))))
     rintro⟨s1,s2,s3,s4⟩ _
     refine Pw (St _ _ (Bv s1 (tkS nv)::Bv s2 (dpS nv)::BY s3 [(ka:Int),(kb:Int)]::CF s4 [kyS nv]::_)) ?_
     refine Ai (Hb 8 7 I) (Aq 8 I (Hb 8 7 I) (Bi I I) (Aq 9 I (Hb 8 7 I) (Qx I) (Aq 10 I (Hb 8 7 I) (Qx I) (Aq 11 I (Hb 8 7 I) (Qx I) (Aq 12 I (Hb 8 7 I) (Qx I) (Pnn 20 [2,3,4,6,5,7,8,9,10,11,12,13,14,15,16,17,18,19,0,1] I ?_))))))
     exact Pm [18,18] I (Pzz (K s1 s2 s3 s4 b8 b9 b10) I)
  .refine Au I I I zeroValue135 (λb10=>Ce nv0.c I (Ai (Hb 2 1 I) (IJ 7 13 14 (by kernel_rfl) I I I I I I ?_ ?_ ?_)))
   .refine BV (BK nv hlf (ka:Int) (kb:Int) (by omega) hia hib hbd h2l hpos hn3) I I I call212 I (λw2 h2=>⟨h2.rd 3 rfl,h2.rd 4 rfl,h2.rd 5 rfl,h2.rd 6 rfl⟩) ?_
    rintro⟨s1,s2,s3,s4⟩ _
    refine Pw (St _ _ (Bv s1 (tkS nv)::Bv s2 (dpS nv)::BY s3 [(ka:Int),(kb:Int)]::CF s4 [kyS nv]::_)) ?_
    refine Ai (Hb 6 5 I) (Aq 8 I (Hb 6 5 I) (Bi I I) (Aq 9 I (Hb 6 5 I) (Qx I) (Aq 10 I (Hb 6 5 I) (Qx I) (Aq 11 I (Hb 6 5 I) (Qx I) (Aq 12 I (Hb 6 5 I) (Qx I) (Ay2 13 14 I ?_ ?_))))))
    .exact Au I I I zeroValue135 (λb8=>Ce nv0.c I (Ai (Hb 7 6 I) (Ay 14 I (Au I I I zeroValue135 (λb9=>Ce nv0.c I (Ai (Hb 8 7 I) (Pm [2,2,2,2,1] I (Pzz (K s1 s2 s3 s4 b8 b9 b10) I))))))))
    .exact Au I I I zeroValue135 (λb9=>Ce nv0.c I (Ai (Hb 7 6 I) (Ay 13 I (Au I I I zeroValue135 (λb8=>Ce nv0.c I (Ai (Hb 8 7 I) (Pm [2,2,2,2] I (Pzz (K s1 s2 s3 s4 b8 b9 b10) I))))))))
   .refine Au I I I zeroValue135 (λb8=>Ce nv0.c I (Ai (Hb 3 2 I) (Ay2 7 14 I ?_ ?_)))
    .refine BV (BK nv hlf (ka:Int) (kb:Int) (by omega) hia hib hbd h2l hpos hn3) I I I call212 I (λw2 h2=>⟨h2.rd 4 rfl,h2.rd 5 rfl,h2.rd 6 rfl,h2.rd 7 rfl⟩) ?_
     rintro⟨s1,s2,s3,s4⟩ _
     refine Pw (St _ _ (Bv s1 (tkS nv)::Bv s2 (dpS nv)::BY s3 [(ka:Int),(kb:Int)]::CF s4 [kyS nv]::_)) ?_
     exact Ai (Hb 7 6 I) (Aq 8 I (Hb 7 6 I) (Bi I I) (Aq 9 I (Hb 7 6 I) (Qx I) (Aq 10 I (Hb 7 6 I) (Qx I) (Aq 11 I (Hb 7 6 I) (Qx I) (Aq 12 I (Hb 7 6 I) (Qx I) (Ay 14 I (Au I I I zeroValue135 (λb9=>Ce nv0.c I (Ai (Hb 8 7 I) (Pm [1,1,1,1,1] I (Pzz (K s1 s2 s3 s4 b8 b9 b10) I)))))))))))
    .refine Au I I I zeroValue135 (λb9=>Ce nv0.c I (Ai (Hb 4 3 I) (Ay 7 I (BV (BK nv hlf (ka:Int) (kb:Int) (by omega) hia hib hbd h2l hpos hn3) I I I call212 I (λw2 h2=>⟨h2.rd 5 rfl,h2.rd 6 rfl,h2.rd 7 rfl,h2.rd 8 rfl⟩) ?_))))
     rintro⟨s1,s2,s3,s4⟩ _
     refine Pw (St _ _ (Bv s1 (tkS nv)::Bv s2 (dpS nv)::BY s3 [(ka:Int),(kb:Int)]::CF s4 [kyS nv]::_)) ?_
     refine Ai (Hb 8 7 I) (Aq 8 I (Hb 8 7 I) (Bi I I) (Aq 9 I (Hb 8 7 I) (Qx I) (Aq 10 I (Hb 8 7 I) (Qx I) (Aq 11 I (Hb 8 7 I) (Qx I) (Aq 12 I (Hb 8 7 I) (Qx I) (Pnn 20 [2,3,5,4,6,7,8,9,10,11,12,13,14,15,16,17,18,19,0,1] I ?_))))))
     exact Pm [18,18] I (Pzz (K s1 s2 s3 s4 b8 b9 b10) I)
   .refine Au I I I zeroValue135 (λb9=>Ce nv0.c I (Ai (Hb 3 2 I) (Ay2 7 13 I ?_ ?_)))
    .refine BV (BK nv hlf (ka:Int) (kb:Int) (by omega) hia hib hbd h2l hpos hn3) I I I call212 I (λw2 h2=>⟨h2.rd 4 rfl,h2.rd 5 rfl,h2.rd 6 rfl,h2.rd 7 rfl⟩) ?_
     rintro⟨s1,s2,s3,s4⟩ _
     refine Pw (St _ _ (Bv s1 (tkS nv)::Bv s2 (dpS nv)::BY s3 [(ka:Int),(kb:Int)]::CF s4 [kyS nv]::_)) ?_
     exact Ai (Hb 7 6 I) (Aq 8 I (Hb 7 6 I) (Bi I I) (Aq 9 I (Hb 7 6 I) (Qx I) (Aq 10 I (Hb 7 6 I) (Qx I) (Aq 11 I (Hb 7 6 I) (Qx I) (Aq 12 I (Hb 7 6 I) (Qx I) (Ay 13 I (Au I I I zeroValue135 (λb8=>Ce nv0.c I (Ai (Hb 8 7 I) (Pm [1,1,1,1] I (Pzz (K s1 s2 s3 s4 b8 b9 b10) I)))))))))))
    .refine Au I I I zeroValue135 (λb8=>Ce nv0.c I (Ai (Hb 4 3 I) (Ay 7 I (BV (BK nv hlf (ka:Int) (kb:Int) (by omega) hia hib hbd h2l hpos hn3) I I I call212 I (λw2 h2=>⟨h2.rd 5 rfl,h2.rd 6 rfl,h2.rd 7 rfl,h2.rd 8 rfl⟩) ?_))))
     rintro⟨s1,s2,s3,s4⟩ _
     refine Pw (St _ _ (Bv s1 (tkS nv)::Bv s2 (dpS nv)::BY s3 [(ka:Int),(kb:Int)]::CF s4 [kyS nv]::_)) ?_
     refine Ai (Hb 8 7 I) (Aq 8 I (Hb 8 7 I) (Bi I I) (Aq 9 I (Hb 8 7 I) (Qx I) (Aq 10 I (Hb 8 7 I) (Qx I) (Aq 11 I (Hb 8 7 I) (Qx I) (Aq 12 I (Hb 8 7 I) (Qx I) (Pnn 20 [2,3,4,5,6,7,8,9,10,11,12,13,14,15,16,17,18,19,0,1] I ?_))))))
     exact Pm [18,18] I (Pzz (K s1 s2 s3 s4 b8 b9 b10) I)
 .intro s1 s2 s3 s4 b8 b9 b10
  have hml:y.hm={x.hm with s:=(x.s.al 2).2}:=hy
  have hqm:y.q.M=x.q.M:=congrArg Hm.M hml
  have hus:y.s=(x.s.al 2).2:=congrArg Hm.s hml
  refine Sv' 1 (ptV y.bh) I (by rw[hbh]) (C0 (Ay 16 I (SW AU I (NV.one _) (Ai (Hb 8 7 I) (EM (Ay 17 I (SW AU I (NV.one _) (Ai (Hb 8 7 I) (Ed (Ay 18 I (SW AU I (NV.one _) (Ai (Hb 8 7 I) (Aq 19 I (Hb 8 7 I) (AF I I) (An (Kt (Cs I (Lm I (Nk (Ah I (Af ?_))))))))))))))))))))
  refine Do8 (rg 7) 1458 _ I St.drawn Ih (Md 3 I (Dfa Dx I Z3 I (Dq I (Al I G3 I (Hat 13 I) I) (Dq I (Cq ((⟨⟨sv0,s3,s4,sv0⟩,⟨false,[],[(ka:Int),(kb:Int)],[kyS nv],[]⟩⟩:NV).c) Bx AU 2 I (I) (I)) (row0 79 En.enc none (row0 154 Ms.enc none (Pnn 22 [11,12,13,14,15,1,7,8,0,16,17,18,19,20,21,2,3,4,5,6,9,10] I (Pm [15,15,15,15,15,15,15] I (d_t I (Ee [_,_,_,_,_,_,_,_,_,_,_,_] (fL hk ht (by rw[hqm];exact hf) (nv:=(⟨⟨sv0,s3,s4,sv0⟩,⟨false,[],[(ka:Int),(kb:Int)],[kyS nv],[]⟩⟩:NV)) (by rw[hml];exact hwr) (by show FN ⟨false,[],[(ka:Int),(kb:Int)],[kyS nv],[]⟩=true;exact hfr) hsr) I call204 Tt ?_))))))))))
  rintro z1 ⟨hb1,hk1,hy1⟩
  refine Pw (St _ _ (_::_::_::_::_::_::_::_::_::_::_::_::_::_::_::_::HQ.H (z1))) ?_
  refine AL (Ks ?_)
  have hu1:z1.s=(x.s.al 2).2:=(congrArg Hm.s hy1).trans hus
  refine Sv' 1 (ptV z1.bh) I (by rw[hb1]) (IV (Av (IV (Av (IV (Av (IV (Av (Do8 (rg 10) 39366 _ I St.drawn Ih (Md 3 I (Dfa Dx I Z3 I (Dq I (Al I G3 I (Hat 11 I) I) (Dm I (Dq I (Ar 0 I U22 Z3 I (Hrd 5 I) I I) (Dq I (AI 0 0 I G3 I I (Hrd 5 I) (show (nI2 (x.s.al 2).1)[0]?=some (ka:Int) by rw[hl2];rfl) I) (Dq I (Cq ((lfV s1 (tkS nv)).c) Bx AU 1 I (I) (I)) (row0 3 (AH .i64) none (row0 77 (Kv.enc 8) none (row0 154 Ms.enc none (Pm [19,19] I ?_))))))))))))))))))))
  refine Pnn 21 [5,6,7,9,10,11,12,13,14,15,16,8,4,3,2,17,18,19,20,0,1] I (d_t I (Ee [_,_,_,_,_,_,_,_,_,_,_] (dV hk1 t (k:=ka) (by rw[hu1];exact hua) (nv:=(lfV s1 (tkS nv))) hfx hsx) I call211 Tt ?_))
  rintro z2 ⟨hb2,hk2,hy2⟩
  refine Pw (St _ _ (_::_::_::_::_::_::_::_::_::_::_::_::_::_::_::HQ.H (z2))) ?_
  refine AL (Kt ?_)
  have hu2:z2.s=(x.s.al 2).2:=(congrArg Hm.s hy2).trans hu1
  refine Sv' 1 (ptV z2.bh) I (by rw[hb2]) (IU (Av (IU (Av (IU (Av (IU (Av (Do8 (rg 10) 39366 _ I St.drawn Ih (Md 3 I (Dfa Dx I Z3 I (Dq I (Al I G3 I (Hat 10 I) I) (Dm I (Dq I (Ar 1 I U22 Z3 I (Hrd 4 I) I I) (Dq I (AI 1 0 I G3 I I (Hrd 4 I) (show (nI2 (x.s.al 2).1)[1]?=some (kb:Int) by rw[hl2];rfl) I) (Dq I (Cq ((lfV s2 (dpS nv)).c) Bx AU 0 I (I) (I)) (row0 3 (AH .i64) none (row0 77 (Kv.enc 8) none (row0 154 Ms.enc none (Pm [18,18] I ?_))))))))))))))))))))
  refine Pnn 20 [5,6,7,9,10,11,12,13,14,15,8,4,3,2,16,17,18,19,0,1] I (d_t I (Ee [_,_,_,_,_,_,_,_,_,_] (dV hk2 t (k:=kb) (by rw[hu2];exact hub) (nv:=(lfV s2 (dpS nv))) hfy hsy) I call211 Tt ?_))
  rintro z3 ⟨hb3,hk3,hy3⟩
  refine Pw (St _ _ (_::_::_::_::_::_::_::_::_::_::_::_::_::_::HQ.H (z3))) ?_
  refine AL (Kt (HH (Av (HH (Av (HH (Av (HH (Av (Cr I (Mv 2 I (Pm [4,4,4,4,4,5,5,5,5,5,5] I (Pm [15,11,11,11,11] I (l_e I (Bf (dX br t a0 0 _) I I I call201 I Tt (λ_ _=>AB (Bp (AM (Av (AM (Av (AM (Av (AM (Av (AM (Av (AM (Av (AM (Av (AM (Av (AM (Av (Pm [3,3,3,3] I ?_))))))))))))))))))))))))))))))))))))
  exact Pm [4,4,4] I (BB I (λ_ hh=>⟨z3,rfl,⟨by rw[hb3,hb2,hb1,hbh],hk3,by rw[hy3,hy2,hy1,hml]⟩,hh⟩))
inductive RS (x:HQ) (B:Nat) (t:Int) (i:Nat):Int->Int->Bool->Bool->Int->Hm->Nat->Prop
 |choose (hlf:(x.q.M.at' i).nd.leaf=true) (hlen:2<=(x.q.M.at' i).nd.es.length):RS x B t i 1 6 true false 0 x.hm B
 |first (hB:B+1<=60000) (hcy:(x.hm.claim t).1=true):RS x B t i 6 7 true false 0 (x.hm.claim t).2 (B+1)
 |second (hB:B+1<=60000) (hcy:(x.hm.claim t).1=true):RS x B t i 7 10 true false 0 (x.hm.claim t).2 (B+1)
 |full (hcl:2<=x.q.M.claims t) (hls:x.s.left<2):RS x B t i 10 11 false true 3 (x.hm.give t) B
 |grow (hlf:(x.q.M.at' i).nd.leaf=true) (hbd:∀e∈(x.q.M.at' i).nd.es,e.Bd) (h2l:2<=(x.q.M.at' i).nd.es.length) (hpos:0<lby (x.q.M.at' i).nd.es) (hn3:(x.q.M.at' i).nd.es.length<=30000) (hcl:2<=x.q.M.claims t) (hls:2<=x.s.left) (hal:∀j,j<2->∃k,(x.s.al j).2.fr=some k) {ka kb:Nat} (hal2:(x.s.al 2).1=[ka,kb]) (hne:ka≠kb) (hia:idB ka=true) (hib:idB kb=true) (hua:(x.s.al 2).2.us[ka]?=some true) (hub:(x.s.al 2).2.us[kb]?=some true) (hwr:(x.hm.lat i).wr=t) (hfr:FN ⟨false,[],[(ka:Int),(kb:Int)],[((x.q.M.at' i).nd.es.getD (spl (x.q.M.at' i).nd.es) en0).key],[]⟩=true) (hsr:(⟨false,[],[(ka:Int),(kb:Int)],[((x.q.M.at' i).nd.es.getD (spl (x.q.M.at' i).nd.es) en0).key],[]⟩:Nd).Sm 1000) (hfx:FN (lfN ((x.q.M.at' i).nd.es.take (spl (x.q.M.at' i).nd.es)))=true) (hsx:(lfN ((x.q.M.at' i).nd.es.take (spl (x.q.M.at' i).nd.es))).Sm 1000) (hfy:FN (lfN ((x.q.M.at' i).nd.es.drop (spl (x.q.M.at' i).nd.es)))=true) (hsy:(lfN ((x.q.M.at' i).nd.es.drop (spl (x.q.M.at' i).nd.es))).Sm 1000):RS x B t i 10 11 false true 0 (((({x.hm with s:=(x.s.al 2).2}:Hm).setN 0 ⟨false,[],[(ka:Int),(kb:Int)],[((x.q.M.at' i).nd.es.getD (spl (x.q.M.at' i).nd.es) en0).key],[]⟩).name t ka (lfN ((x.q.M.at' i).nd.es.take (spl (x.q.M.at' i).nd.es)))).name t kb (lfN ((x.q.M.at' i).nd.es.drop (spl (x.q.M.at' i).nd.es)))) B
theorem RS.nd (h:RS x B t i a0 a1 hs en e m B2):decide (a0=11)=false:=by cases h<;>rfl
theorem ja (h:x.Ok B) {t:Int} (ht:tkB t) (hmay:x.hm.may t) (br:Nat) {i:Nat} (hf:x.q.M.frI 0 2=some i) {a0 a1:Int} {hs en:Bool} {e:Int} {m:Hm} {B2:Nat} (hR:RS x B t i a0 a1 hs en e m B2):Con prog 88 [ptV br,ptV x.bh] Tr (Ad br 249 (rmC t a0 0 true false true 0)::x.H) (λy:HQ=>.tuple #[.bool en,.int .i64 e]) (λy=>y.bh=x.bh/\y.Ok B2/\y.hm=m) (λy=>Ad br 249 (rmC t a1 0 hs false true e)::y.H):=by
 intro w hE hH
 have hd:=hR.nd
 refine Ey func88 I hH (Cs I (Las I (Ak I (Af (Cs I (Mv 2 I (Lfa Dx I Z3 I (Lo G3 0 I (Lq I (Qe I) (Nk (Sb 15 false I (hd) (Aa I (Ae (Ks (Cs I (Mv 3 I (Lfa Dx I Z3 I (Lo G3 0 I (l_e I (Ee [_] (Ha h t) I call82 Tt (λ_ _=>Pw (St _ _ (_::HQ.H (x))) (Sv' 25 (.bool true) I (by rw[hmay]) (Lq I (Qt I) (Nk (Sb 26 false I (I) (Aa I (Ae (Ks ?_))))))))))))))))))))))))))))
 refine Dw (λ(s:N4) (bp:Nat)=>[(0,ptV br),(1,ptV x.bh),(6,pV bp)]) (λ(s:N4) (bp:Nat)=>St w (dom (Ad br 249 (rmC t a0 0 true false true 0)::x.H)) (Ad bp 135 (⟨s,(x.q.M.at' i).nd⟩:NV).c::(Bz (⟨s,(x.q.M.at' i).nd⟩:NV)++(Ad br 249 (rmC t a0 0 true false true 0)::x.H)))) (λ(s:N4) (bp:Nat)=>True) ?_ ?_
 .refine Fo (λw2=>(Ad br 249 (rmC t a0 0 true false true 0)).at w2/\(Ad x.bh 91 x.cells).at w2) I St.drawn (Aq 0 I (H2 0 1 I) (Bi I I) (Aq 1 I (H2 0 1 I) (Bw I I) (Aq 2 I (H2 0 1 I) (Ba I U91 I Z86 I I) (Aq 3 I (H2 0 1 I) (Al I G86 I (λ_ h=>h.2) I) (Aq 4 I (H2 0 1 I) (Bi I I) (Aq 5 I (H2 0 1 I) (Bw I I) (Aq 6 I (H2 0 1 I) (Ba I Dx I Z3 I I) (Aq 7 I (H2 0 1 I) (Al I G3 I (λ_ h=>h.1) I) (Ay2 8 12 I ?_ ?_)))))))))
  .refine Ee [_] (GG h hf) I call116 Tt (λs _=>Pw (St _ _ (_::_::_::_::_::HQ.H (x))) (Ai (H2 0 5 I) (Aq 9 I (H2 0 5 I) (Bi I I) (Aq 10 I (H2 0 5 I) (Qx I) (Aq 11 I (H2 0 5 I) (Qx I) (Ay 12 I (Au I I I zeroValue135 (λbp=>Ce nv0.c I (Ai (H2 1 6 I) (Ay 13 I (SW AU I (NV.one _) (Ai (H2 1 6 I) (Aq 14 I (H2 1 6 I) (AF I I) (An (Pm [0,1,1,1,1] I ?_)))))))))))))))
   exact Bc ((s,bp)) trivial (Si I) (λ_ h=>h)
  .refine Au I I I zeroValue135 (λbp=>Ce nv0.c I (Ai (H2 1 2 I) (Ay 8 I (Ee [_,_] (GG h hf) I call116 Tt (λs _=>Pw (St _ _ (_::_::_::_::_::_::HQ.H (x))) (Ai (H2 1 6 I) (Aq 9 I (H2 1 6 I) (Bi I I) (Aq 10 I (H2 1 6 I) (Qx I) (Aq 11 I (H2 1 6 I) (Qx I) (Ay 13 I (SW AU I (NV.one _) (Ai (H2 1 6 I) (Aq 14 I (H2 1 6 I) (AF I I) (An (Pm [0,1,1,1,1] I ?_)))))))))))))))
   exact Bc ((s,bp)) trivial (Si I) (λ_ h=>h)
 .intro s bp _
  refine Af ?_
  refine Dw (λ(s2:N4) (bq:Nat)=>[(0,ptV br),(1,ptV x.bh),(6,pV bp),(8,pV bq)]) (λ(s2:N4) (bq:Nat)=>St w (dom (Ad br 249 (rmC t a0 0 true false true 0)::x.H)) (Ad bp 135 (⟨s,(x.q.M.at' i).nd⟩:NV).c::(Bz (⟨s,(x.q.M.at' i).nd⟩:NV)++(Ad bq 135 (⟨s2,(x.q.M.at' i).nd⟩:NV).c::(Bz (⟨s2,(x.q.M.at' i).nd⟩:NV)++(Ad br 249 (rmC t a0 0 true false true 0)::x.H)))))) (λ(s2:N4) (bq:Nat)=>True) ?_ ?_
  .refine Fo (λw2=>(Ad br 249 (rmC t a0 0 true false true 0)).at w2/\(Ad x.bh 91 x.cells).at w2) I St.drawn (Aq 0 I (H2 5 6 I) (Bi I I) (Aq 1 I (H2 5 6 I) (Bw I I) (Aq 2 I (H2 5 6 I) (Ba I U91 I Z86 I I) (Aq 3 I (H2 5 6 I) (Al I G86 I (λ_ h=>h.2) I) (Aq 4 I (H2 5 6 I) (Bi I I) (Aq 5 I (H2 5 6 I) (Bw I I) (Aq 6 I (H2 5 6 I) (Ba I Dx I Z3 I I) (Aq 7 I (H2 5 6 I) (Al I G3 I (λ_ h=>h.1) I) (Ay2 8 12 I ?_ ?_)))))))))
   .refine Ee [_,_,_,_,_,_] (GG h hf) I call116 Tt (λs2 _=>Pw (St _ _ (_::_::_::_::_::_::_::_::_::_::HQ.H (x))) (Ai (H2 5 10 I) (Aq 9 I (H2 5 10 I) (Bi I I) (Aq 10 I (H2 5 10 I) (Qx I) (Aq 11 I (H2 5 10 I) (Qx I) (Ay 12 I (Au I I I zeroValue135 (λbq=>Ce nv0.c I (Ai (H2 6 11 I) (Ay 13 I (SW AU I (NV.one _) (Ai (H2 6 11 I) (Aq 14 I (H2 6 11 I) (AF I I) (An (Pnn 17 [2,3,4,5,0,7,8,9,10,6,11,12,13,14,15,16,1] I (eT ?_))))))))))))))))
    exact Bc ((s2,bq)) trivial (Si I) (λ_ h=>h)
   .refine Au I I I zeroValue135 (λbq=>Ce nv0.c I (Ai (H2 6 7 I) (Ay 8 I (Ee [_,_,_,_,_,_,_] (GG h hf) I call116 Tt (λs2 _=>Pw (St _ _ (_::_::_::_::_::_::_::_::_::_::_::HQ.H (x))) (Ai (H2 6 11 I) (Aq 9 I (H2 6 11 I) (Bi I I) (Aq 10 I (H2 6 11 I) (Qx I) (Aq 11 I (H2 6 11 I) (Qx I) (Ay 13 I (SW AU I (NV.one _) (Ai (H2 6 11 I) (Aq 14 I (H2 6 11 I) (AF I I) (An (Pnn 17 [4,5,0,7,8,9,10,6,11,12,13,14,15,16,1,2,3] I (Pm [14,14,14] I ?_))))))))))))))))
    exact Bc ((s2,bq)) trivial (Si I) (λ_ h=>h)
  .intro s2 bq _
   refine Af ?_
   rcases hR with⟨hlf,hlen⟩|⟨hB,hcy⟩|⟨hB,hcy⟩|⟨hcl,hls⟩|⟨hlf,hbd,h2l,hpos,hn3,hcl,hls,hal,hal2,hne,hia,hib,hua,hub,hwr,hfr,hsr,hfx,hsx,hfy,hsy⟩
   .refine Cr I (Ak I (Af (Cs I (Mv 2 I (Lfa Dx I Z3 I (Lo G3 10 I (Nk (Aj (Af (Aj (Af (Aj (Af (Aj (Af (Aj (Af (Aj (Af (Aj (Af (Aj ?_))))))))))))))))))))))
    refine Af (Aj (Af (Aj (Af (Aj (Af (Af (Cs I (Lq I (Qe I) (Ak I (Sb 55 true I (I) (Ah I (AO (Ab (Ab (Am (Kt (Cs I (Mv 2 I (Lq I (Cq ((⟨s,(x.q.M.at' i).nd⟩:NV).c) Bx AU 0 I (I) (I)) (Pre.fact (λ_ h=>(h.rd 1 I).vlen) (λhvl=>HH (l_e I (Bf (XV br t _ (⟨s,(x.q.M.at' i).nd⟩:NV) hlf (by have e1:s.e.n=(x.q.M.at' i).nd.es.length:=hvl;show 2<=s.e.n;rw[e1];exact hlen)) I I I call138 I Tt (λ_ _=>Nk (AO (AD I (Ab (AD I (Ab (AD I (Ab (AD I (Ab (AD I (Ab (AD I (Ab (AD I (Ab (AD I (Ab (AD I (Ab (Am (Ks (Do8 (rg 11) 118098 _ I St.drawn Ih (Dm I ?_))))))))))))))))))))))))))))))))))))))))))))))))
    refine Dc I (Dfa Dx I Z3 I (Dq I (Al I G3 I (Hat 0 I) I) (Md 3 I (Dfa Dx I Z44 I (Dq I (Al I G44 I (Hat 0 I) I) (Das I (d_t I (e_q I I (AF I I) (AL (Kt (Ag (Pm [8,8,8,0,7,7,7,7,7,7] I ?_))))))))))))
    exact Pm [10,10,10,10,10,10,10] I (Av (Av (Av (Av (Av (Av (Av (Av (Av (Av (Bg (rs:=[.tmp 4,.tmp 5]) I I (λ_ hh=>⟨x,rfl,⟨rfl,h,rfl⟩,hh⟩))))))))))))
   .refine Cr I (Ak I (Af (Cs I (Mv 2 I (Lfa Dx I Z3 I (Lo G3 10 I (Nk (Aj (Af (Aj (Af (Aj (Af (Aj (Af (Aj (Af (Aj (Af (Aj (Af (Aj ?_))))))))))))))))))))))
    refine Af (Aj (Af (Aj (Af (Aj (Af (Af (Cs I (Lq I (Qe I) (Ak I (Sb 55 false I (I) (Aa I (Ae (Ks (Cs I (Lq I (Qe I) (Ak I (Sb 57 false I (I) (Aa I (Ae (Ks (Cs I (Lq I (Qe I) ?_)))))))))))))))))))))))
    refine Ak I (Sb 59 false I (I) (Aa I (Ae (Ks (Cs I (Lq I (Qe I) (Ak I (Sb 61 false I (I) (Aa I (Ae (Ks (Cs I (Lq I (Qe I) (Ak I (Sb 63 false I (I) (Aa I (Ae (Ks (Cs I (Lq I (Qe I) (Ak I (Sb 65 true I (I) (Ah I ?_)))))))))))))))))))))))
    refine AO (Ab (Ab (AD I (Ab (AD I (Ab (AD I (Ab (AD I (Ab (AD I (Ab (Am (Kt (Cr I (Las I (AB (Aw (Kt (Cs I (Mv 3 I (l_e I (Ee [_,_,_,_,_,_,_,_,_,_] (Tv h ht br 6 7 hB hcy) I call140 Tt ?_)))))))))))))))))))))))
    rintro y ⟨hbh,hk,hy⟩
    refine Pw (St _ _ (_::_::_::_::_::_::_::_::_::_::_::HQ.H y)) ?_
    refine Nk (AO (AD I (Ab (AD I (Ab (AD I (Ab (Am (Ks (Do8 (rg 11) 118098 _ I St.drawn Ih (Md 2 I (Dfa Dx I Z3 I (Dq I (Al I G3 I (Hat 10 I) I) (Md 3 I (Dfa Dx I Z44 I (Dq I (Al I G44 I (Hat 10 I) I) (Das I (d_t I (e_q I I (AF I I) (AL (Kt (Ag (Av (Av (Av (Av (Av ?_)))))))))))))))))))))))))))
    exact Av (Av (Av (Av (Av (Bg (rs:=[.tmp 4,.tmp 5]) I I (λ_ hh=>⟨y,rfl,⟨hbh,hk,hy⟩,hh⟩))))))
   .refine Cr I (Ak I (Af (Cs I (Mv 2 I (Lfa Dx I Z3 I (Lo G3 10 I (Nk (Aj (Af (Aj (Af (Aj (Af (Aj (Af (Aj (Af (Aj (Af (Aj (Af (Aj ?_))))))))))))))))))))))
    refine Af (Aj (Af (Aj (Af (Aj (Af (Af (Cs I (Lq I (Qe I) (Ak I (Sb 55 false I (I) (Aa I (Ae (Ks (Cs I (Lq I (Qe I) (Ak I (Sb 57 false I (I) (Aa I (Ae (Ks (Cs I (Lq I (Qe I) ?_)))))))))))))))))))))))
    refine Ak I (Sb 59 false I (I) (Aa I (Ae (Ks (Cs I (Lq I (Qe I) (Ak I (Sb 61 false I (I) (Aa I (Ae (Ks (Cs I (Lq I (Qe I) (Ak I (Sb 63 false I (I) (Aa I (Ae (Ks (Cs I (Lq I (Qe I) (Ak I (Sb 65 false I (I) (Aa I ?_)))))))))))))))))))))))
    refine Ae (Ks (Cs I (Lq I (Qe I) (Ak I (Sb 67 true I (I) (Ah I (AO (Ab (Ab (AD I (Ab (AD I (Ab (AD I (Ab (AD I (Ab (AD I (Ab (AD I (Ab (Am (Kt (Cs I (Mv 3 I (l_e I (Ee [_,_,_,_,_,_,_,_,_,_] (Tv h ht br 7 10 hB hcy) I call140 Tt ?_)))))))))))))))))))))))))))
    rintro y ⟨hbh,hk,hy⟩
    refine Pw (St _ _ (_::_::_::_::_::_::_::_::_::_::_::HQ.H y)) ?_
    refine Nk (AO (AD I (Ab (AD I (Ab (AD I (Ab (Am (Ks (Do8 (rg 11) 118098 _ I St.drawn Ih (Md 2 I (Dfa Dx I Z3 I (Dq I (Al I G3 I (Hat 10 I) I) (Md 3 I (Dfa Dx I Z44 I (Dq I (Al I G44 I (Hat 10 I) I) (Das I (d_t I (e_q I I (AF I I) (AL (Kt (Ag (Av (Av (Av (Av (Av ?_)))))))))))))))))))))))))))
    exact Av (Av (Av (Av (Av (Bg (rs:=[.tmp 4,.tmp 5]) I I (λ_ hh=>⟨y,rfl,⟨hbh,hk,hy⟩,hh⟩))))))
   .refine Cr I (Ak I (Af (Cs I (Mv 2 I (Lfa Dx I Z3 I (Lo G3 10 I (Nk (Aj (Af (Aj (Af (Aj (Af (Aj (Af (Aj (Af (Aj (Af (Aj (Af (Aj ?_))))))))))))))))))))))
    refine Af (Aj (Af (Aj (Af (Aj (Af (Af (Cs I (Lq I (Qe I) (Ak I (Sb 55 false I (I) (Aa I (Ae (Ks (Cs I (Lq I (Qe I) (Ak I (Sb 57 false I (I) (Aa I (Ae (Ks (Cs I (Lq I (Qe I) ?_)))))))))))))))))))))))
    refine Ak I (Sb 59 false I (I) (Aa I (Ae (Ks (Cs I (Lq I (Qe I) (Ak I (Sb 61 false I (I) (Aa I (Ae (Ks (Cs I (Lq I (Qe I) (Ak I (Sb 63 false I (I) (Aa I (Ae (Ks (Cs I (Lq I (Qe I) (Ak I (Sb 65 false I (I) (Aa I ?_)))))))))))))))))))))))
    refine Ae (Ks (Cs I (Lq I (Qe I) (Ak I (Sb 67 false I (I) (Aa I (Ae (Ks (Cs I (Lq I (Qe I) (Ak I (Sb 69 false I (I) (Aa I (Ae (Ks (Cs I (Lq I (Qe I) (Ak I (Sb 71 false I (I) (Aa I (Ae (Kt (Cs I ?_)))))))))))))))))))))))
    refine Lq I (Qe I) (Ak I (Sb 73 true I (I) (Ah I (AO (Ab (AD I (Ab (AD I (Ab (AD I (Ab (AD I (Ab (AD I (Ab (AD I (Ab (AD I (Ab (AD I (Ab (AD I (Ab (Am (Kt (Cs I (Mv 2 I (Lq I (Cq ((⟨s,(x.q.M.at' i).nd⟩:NV).c) Bx AU 0 I (I) (I)) (l_e I (Ee [_,_,_,_,_,_,_,_,_,_] (Vj h ht br 10 (⟨s,(x.q.M.at' i).nd⟩:NV) hcl hls) I call142 Tt ?_))))))))))))))))))))))))))))))
    rintro y ⟨hbh,hk,hy⟩
    refine Pw (St _ _ (_::_::_::_::_::_::_::_::_::_::_::HQ.H y)) ?_
    refine Nk (AO (Am (Ks (Do8 (rg 11) 118098 _ I St.drawn Ih (Md 2 I (Dfa Dx I Z3 I (Dq I (Al I G3 I (Hat 10 I) I) (Md 3 I (Dfa Dx I Z44 I (Dq I (Al I G44 I (Hat 10 I) I) (Das I (d_t I (e_q I I (AF I I) (AL (Kt (Ag (Pm [13,13,13,13] I ?_)))))))))))))))))
    exact Pnn 17 [4,5,6,7,8,9,10,11,12,13,14,15,16,0,1,2,3] I (Av (Av (Av (Av (Av (Av (Av (Av (Av (Av (Bg (rs:=[.tmp 4,.tmp 5]) I I (λ_ hh=>⟨y,rfl,⟨hbh,hk,hy⟩,hh⟩))))))))))))
   .refine Cr I (Ak I (Af (Cs I (Mv 2 I (Lfa Dx I Z3 I (Lo G3 10 I (Nk (Aj (Af (Aj (Af (Aj (Af (Aj (Af (Aj (Af (Aj (Af (Aj (Af (Aj ?_))))))))))))))))))))))
    refine Af (Aj (Af (Aj (Af (Aj (Af (Af (Cs I (Lq I (Qe I) (Ak I (Sb 55 false I (I) (Aa I (Ae (Ks (Cs I (Lq I (Qe I) (Ak I (Sb 57 false I (I) (Aa I (Ae (Ks (Cs I (Lq I (Qe I) ?_)))))))))))))))))))))))
    refine Ak I (Sb 59 false I (I) (Aa I (Ae (Ks (Cs I (Lq I (Qe I) (Ak I (Sb 61 false I (I) (Aa I (Ae (Ks (Cs I (Lq I (Qe I) (Ak I (Sb 63 false I (I) (Aa I (Ae (Ks (Cs I (Lq I (Qe I) (Ak I (Sb 65 false I (I) (Aa I ?_)))))))))))))))))))))))
    refine Ae (Ks (Cs I (Lq I (Qe I) (Ak I (Sb 67 false I (I) (Aa I (Ae (Ks (Cs I (Lq I (Qe I) (Ak I (Sb 69 false I (I) (Aa I (Ae (Ks (Cs I (Lq I (Qe I) (Ak I (Sb 71 false I (I) (Aa I (Ae (Kt (Cs I ?_)))))))))))))))))))))))
    refine Lq I (Qe I) (Ak I (Sb 73 true I (I) (Ah I (AO (Ab (AD I (Ab (AD I (Ab (AD I (Ab (AD I (Ab (AD I (Ab (AD I (Ab (AD I (Ab (AD I (Ab (AD I (Ab (Am (Kt (Cs I (Mv 2 I (Lq I (Cq ((⟨s,(x.q.M.at' i).nd⟩:NV).c) Bx AU 0 I (I) (I)) (Pm [0,4,4,4,4,4] I (l_e I (Ee [_,_,_,_,_,_] (RR h ht br 10 (⟨s,(x.q.M.at' i).nd⟩:NV) hlf hbd h2l hpos hn3 hcl hls hal hal2 hne hia hib hua hub hf hwr hfr hsr hfx hsx hfy hsy) I call142 Tt ?_)))))))))))))))))))))))))))))))
    rintro y ⟨hbh,hk,hy⟩
    refine Pw (St _ _ (_::_::_::_::_::_::_::HQ.H y)) ?_
    refine Nk (AO (Am (Ks (Do8 (rg 11) 118098 _ I St.drawn Ih (Md 2 I (Dfa Dx I Z3 I (Dq I (Al I G3 I (Hat 6 I) I) (Md 3 I (Dfa Dx I Z44 I (Dq I (Al I G44 I (Hat 6 I) I) (Das I (d_t I (e_q I I (AF I I) (AL (Kt (Ag (Pm [9,9,9,9] I ?_)))))))))))))))))
    exact Pm [4,4,4,4,4,4,4,4,4] I (Av (Av (Av (Av (Av (Av (Bg (rs:=[.tmp 4,.tmp 5]) I I (λ_ hh=>⟨y,rfl,⟨hbh,hk,hy⟩,hh⟩))))))))
theorem F8 :Con prog 124 [] Tr [] (λ_:Unit=>.agg ([fnV 182,fnV 183,fnV 184,fnV 185,fnV 186]).toArray) Tr (λ_=>[]):=by
 intro w hE hH
 refine E0 func124 I hH ?_
 exact Cs I (l_e I (Au I I I zeroValue231 (λbr=>Nk (Cs I (Lq I (AP ([fnV 182,fnV 183,fnV 184,fnV 185,fnV 186]) I I (λw=>by kernel_rfl)) (l_e I (Az rfl rfl sizeOf231 rfl rfl rfl (λv hv=>by simp at hv;rcases hv with rfl|rfl|rfl|rfl|rfl<;>rfl) (by show 0+5<=5;decide) (Ce [fnV 182,fnV 183,fnV 184,fnV 185,fnV 186] I (Nk (Ag (CJ I (AK I isAgg231 sizeOf231 (Hat 0 I) (I)) (λ_ h=>⟨(),rfl,T0,h.kv⟩))))))))))))
theorem RS.ends (h:RS x B t i a0 a1 hs en e m B2):(en=false/\e=0)\/(en=true/\e=0)\/(en=true/\e=3):=by cases h<;>simp
def wbW (t:Int) (m:Ms) (br:Nat) (en:Bool) (e:Int):Wr:=if en=true then (if e=0 then⟨t,m,3,true,.pointer none,0⟩ else⟨t,m,5,false,.pointer none,e⟩) else⟨t,m,4,true,ptV br,0⟩
def wbH (t:Int) (i:Nat) (en:Bool) (e:Int) (h:Hm):Hm:=if en=true then (if e=0 then h else h.leave i t 0) else h
theorem fZ (h:x.Ok B) {t:Int} (ht:tkB t) (hmay:x.hm.may t) (br:Nat) {i:Nat} (hf:x.q.M.frI 0 2=some i) {a0 a1:Int} {hs en:Bool} {e:Int} {m2:Hm} {B2:Nat} (hR:RS x B t i a0 a1 hs en e m2 B2) (hl:en=true->e=3->m2.M.frI 0 2=some i/\De (m2.lat i) t=true) (b:Nat) (m:Ms) (sq:Int):Con prog 186 [ptV b,ptV x.bh,.int .u64 sq] Tr (Ad br 249 (rmC t a0 0 true false true 0)::WRE b (⟨t,m,4,true,(ptV br),0⟩:Wr)::x.H) (λy:HQ=>.bool false) (λy=>y.bh=x.bh/\y.Ok B2/\y.hm=wbH t i en e m2) (λy=>Ad br 249 (rmC t a1 0 hs false true e)::WRE b (wbW t m br en e)::y.H):=by
 intro w hE hH
 refine Ey func186 I hH (Cs I (Ak I (Cs I (Mv 2 I (Lfa BX I Rc I (Lq I (Al I isAgg177 I (Hat 1 I) (Wr.mid _ (j:=2) I)) (Lm I (Pm [1] I (l_e I (Ee [_] (ja h ht hmay br hf hR) I call88 Tt ?_))))))))))
 rintro y ⟨hbh,hk,hy⟩
 refine Pw (St _ _ (_::_::HQ.H y)) ?_
 rcases hR.ends with⟨rfl,rfl⟩|⟨rfl,rfl⟩|⟨rfl,rfl⟩
 .refine Mv 4 I (Ak I (Af (Aj (Cs I (Mv 5 I (Ak I (Aa I (Cs I (Lm I (Ak I (Aa I (Ae (Aw (Kt (Cs I (Ak I ?_))))))))))))))))
  exact Ag (Pm [1] I (Ao I I (λ_ hh=>⟨y,rfl,⟨hbh,hk,hy⟩,hh⟩)))
 .refine Mv 4 I (Ak I (Af (Aj (Cs I (Mv 5 I (Ak I (Sb 18 true I (I) (Ah I (Cr I (Mv 3 I (Lfa BX I Z3 I (l_e I (AG I I Z3 I I I (by rw[Wr.ko];decide) (Ce ((⟨t,m,3,true,(ptV br),0⟩:Wr)).c (Wr.set_mid (j:=0) I I I) ?_))))))))))))))
  exact Lc I (Lfa BX I Rc I (l_e I (AG I I Rc I I I (by rw[Wr.ko];decide) (Ce ((⟨t,m,3,true,(.pointer none),0⟩:Wr)).c (Wr.set_mid (j:=2) I I I) (AB (Aw (Kt (Cs I (Ak I (Ag (Pm [1] I (Ao I I (λ_ hh=>⟨y,rfl,⟨hbh,hk,hy⟩,hh⟩)))))))))))))
 .refine Mv 4 I (Ak I (Af (Aj (Cs I (Mv 5 I (Ak I (Sb 18 false I (I) (Aa I (Cs I (Lm I (Ak I (Ah I (Cr I (Mv 3 I ?_))))))))))))))
  have hl:=hl rfl rfl
  refine Sv' 33 (ptV y.bh) I (by rw[hbh]) (Pm [1] I (l_e I (Ee [_] (Of hk ht b m (3:Int) (i:=i) (by rw[show y.q.M=m2.M from congrArg Hm.M hy];exact hl.1) (by rw[hy];exact hl.2) 4 (ptV br)) I call254 Tt ?_)))
  rintro z ⟨hbz,hkz,hz⟩
  refine Pw (St _ _ (_::_::HQ.H z)) ?_
  exact AB (Aw (Kt (Cs I (Ak I (Ag (Ao I I (λ_ hh=>⟨z,rfl,⟨by rw[hbz,hbh],hkz,by rw[hz,hy];rfl⟩,hh⟩)))))))
structure Wv where
 a:Int
 p:Bool
 r:Option (Int×Bool×Int)
 e:Int
def Wv.H (v:Wv) (t:Int) (m:Ms) (b br:Nat):List Ent:=match v.r with
 |none=>[WRE b ⟨t,m,v.a,v.p,.pointer none,v.e⟩]
 |some r=>[Ad br 249 (rmC t r.1 0 r.2.1 false true r.2.2),WRE b ⟨t,m,v.a,v.p,ptV br,v.e⟩]
def wbV (a1:Int) (hs en:Bool) (e:Int):Wv:=if en=true then (if e=0 then⟨3,true,none,0⟩ else⟨5,false,none,e⟩) else⟨4,true,some (a1,hs,e),0⟩
theorem bJ (t:Int) (m:Ms) (br:Nat) (a1:Int) (hs en:Bool) (e:Int):Ending.returned (Value.tuple #[.bool (decide ((wbW t m br en e).at'=5)),.bool false,.int .i64 (wbW t m br en e).e])=Ending.returned (Value.tuple #[.bool (decide ((wbV a1 hs en e).a=5)),.bool false,.int .i64 (wbV a1 hs en e).e]):=by
 unfold wbW wbV
 cases en
 .rfl
 .by_cases he:e=0
  .simp only[he,mA]
  .simp only[he,mA,nz]
inductive WS (x:HQ) (B:Nat) (t:Int) (m:Ms) (sq:Int):Wv->Wv->Bool->Hm->Nat->Prop
 |pin (hB:B+1<=60000) (hu:x.s.us[0]?=some true):WS x B t m sq ⟨0,false,none,0⟩ ⟨(Ja (x.hm.pin t ((0:Nat):Int)).1).1,(Ja (x.hm.pin t ((0:Nat):Int)).1).2,none,0⟩ false (x.hm.pin t ((0:Nat):Int)).2 (B+1)
 |load (hu:x.s.us[0]?=some true) (hr:Co (0:Int) x.rd=some t) {bk:Bk} (hb:x.s.bl[0]?=some bk) {nd:Nd} (hd:RK bk.l nd) (hsm:nd.Sm 1000):WS x B t m sq ⟨1,true,none,0⟩ ⟨2,true,none,0⟩ false (x.hm.load 0 nd) B
 |take (hB:B+1<=60000) {i:Nat} (hf:x.q.M.frI 0 2=some i):WS x B t m sq ⟨2,true,none,0⟩ ⟨3,true,none,0⟩ false (x.hm.take i t true) (B+1)
 |leaf (hsq:(Lit.int .u64 sq).wf=true) {i:Nat} (hf:x.q.M.frI 0 2=some i) (hlf:(x.q.M.at' i).nd.leaf=true) (hri:BG (x.q.M.at' i).nd.es) (hri2:BG (Bs (x.q.M.at' i).nd.es m)) (hwr:(x.hm.lat i).wr=t) (hhs:De (x.hm.lat i) t=true) (hft:Cv (Dd (x.q.M.at' i).nd (m.kA sq hsq))=true) (hsm2:(Dd (x.q.M.at' i).nd (m.kA sq hsq)).Sm 1000):WS x B t m sq ⟨3,true,none,0⟩ ⟨5,false,none,0⟩ true ((x.hm.setN 0 (Dd (x.q.M.at' i).nd (m.kA sq hsq))).leave i t 0) B
 |inner (hsq:(Lit.int .u64 sq).wf=true) {i:Nat} (hf:x.q.M.frI 0 2=some i) (hlf:(x.q.M.at' i).nd.leaf=false) (hri:BE Ms.key (x.q.M.at' i).nd.msgs) (hri2:BE Ms.key (C9 (x.q.M.at' i).nd.msgs (m.kA sq hsq))) (hwr:(x.hm.lat i).wr=t) (hhs:De (x.hm.lat i) t=true) (hft:GC (Ek (x.q.M.at' i).nd (m.kA sq hsq))=true) (hsm2:(Ek (x.q.M.at' i).nd (m.kA sq hsq)).Sm 1000):WS x B t m sq ⟨3,true,none,0⟩ ⟨5,false,none,0⟩ true ((x.hm.setN 0 (Ek (x.q.M.at' i).nd (m.kA sq hsq))).leave i t 0) B
 |no (hsq:(Lit.int .u64 sq).wf=true) {i:Nat} (hf:x.q.M.frI 0 2=some i) (hlf:(x.q.M.at' i).nd.leaf=true) (hri:BG (x.q.M.at' i).nd.es) (hri2:BG (Bs (x.q.M.at' i).nd.es m)) (hft:Cv (Dd (x.q.M.at' i).nd (m.kA sq hsq))=false):WS x B t m sq ⟨3,true,none,0⟩ ⟨4,true,some (1,true,0),0⟩ false x.hm B
 |room {i:Nat} (hf:x.q.M.frI 0 2=some i) {a0 a1:Int} {hs en:Bool} {e:Int} {m2:Hm} {B2:Nat} (hR:RS x B t i a0 a1 hs en e m2 B2) (hl:en=true->e=3->m2.M.frI 0 2=some i/\De (m2.lat i) t=true):WS x B t m sq ⟨4,true,some (a0,true,0),0⟩ (wbV a1 hs en e) false (wbH t i en e m2) B2
theorem jb (a1:Int) (hs en:Bool) (e:Int) (t:Int) (m:Ms) (b br:Nat) {H:List Ent} {w0 w:World} {D:List Nat} (h:St w0 D (Ad br 249 (rmC t a1 0 hs false true e)::WRE b (wbW t m br en e)::H) w):St w0 D ((wbV a1 hs en e).H t m b br++H) w:=by
 unfold wbW at h;unfold wbV
 cases en
 .exact h
 .by_cases he:e=0
  .simp only[he,mA] at h ⊢;exact h.drop
  .simp only[he,mA,nz] at h ⊢;exact h.drop
theorem XW (h:x.Ok B) {t:Int} (ht:tkB t) (hmay:x.hm.may t) (b br:Nat) (m:Ms) (sq:Int) {v v2:Wv} {inn:Bool} {m3:Hm} {B3:Nat} (hW:WS x B t m sq v v2 inn m3 B3):Con prog 80 [ptV b,ptV x.bh,.int .u64 sq] Tr (v.H t m b br++x.H) (λy:Nat×HQ=>.tuple #[.bool (decide (v2.a=5)),.bool inn,.int .i64 v2.e]) (λy=>y.2.bh=x.bh/\y.2.Ok B3/\y.2.hm=m3) (λy=>v2.H t m b y.1++y.2.H):=by
 rcases hW with⟨hB,hu⟩|⟨hu,hr,hb,hd,hsm⟩|⟨hB,hf⟩|⟨hsq,hf,hlf,hri,hri2,hwr,hhs,hft,hsm2⟩|⟨hsq,hf,hlf,hri,hri2,hwr,hhs,hft,hsm2⟩|⟨hsq,hf,hlf,hri,hri2,hft⟩|@⟨i,hf,a0,a1,hs,en,e,m2,B2,hR,hl⟩
 .intro w hE hH
  refine Ey func80 I hH (Cs I (Mv 2 I (Ak I (Af (Cs I (Mv 2 I (Lfa BX I Z3 I (Lq I (Al I G3 I (Hat 0 I) (Wr.mid _ (j:=0) I)) (Mv 2 I (Sb 14 true I (I) (Mv 3 I (Lfa BX I Z3 I (Lo G3 0 I (l_e I (Ee [_] (Ha h t) I call82 Tt (λ_ _=>Pw (St _ _ (_::HQ.H (x))) ?_))))))))))))))))
  refine Sv' 20 (.bool true) I (by rw[hmay]) (Lq I (Qy I) (Nk (Ah I (Do8 [1,2,3,4,6,7,8,0,5,9,10] 159651 (λw2=>(WRE b (⟨t,m,0,false,(.pointer none),0⟩:Wr)).at w2) I St.drawn (Hat 0 I) (Md 2 I (Dfa BX I Z3 I (Dq I (Al I G3 I Ih (Wr.mid _ (j:=0) I)) (Md 3 I (d_e I (E1 (F8) I call124 Tt (λ_ _=>Ai (Hat 0 I) (Dq I (D6 (v:=fnV 182) I I I (λw=>by kernel_rfl)) (d_t I (Ff [] (iY h ht b m sq hB hu) I I I I call182 I Tt ?_))))))))))))))
  rintro y ⟨hbh,hk,hy⟩
  refine Pw (St _ _ (_::HQ.H (y))) ?_
  exact d_t I (e_q I I (AF I I) (AL (Ks (Do8 (rg 13) 1062882 _ I St.drawn Ih (Md 2 I (Dfa BX I Z3 I (Dq I (Al I G3 I (Hat 0 I) (Wr.mid _ (j:=0) I)) (Md 4 I (Dfa BX I Z44 I (Dq I (Al I G44 I (Hat 0 I) (Wr.mid _ (j:=3) I)) (Md 2 I (d_t I (e_q I I (AF I I) (AL (Kt (Ag (Bg (rs:=[.tmp 6,.tmp 7,.tmp 8]) I I (λ_ hh=>⟨(br,y),congrArg (λz=>Ending.returned (Value.tuple #[Value.bool z,.bool _,.int .i64 _])) (by show decide ((Ja (x.hm.pin t ((0:Nat):Int)).1).1=5)=decide ((Ja (x.hm.pin t ((0:Nat):Int)).1).1=5);rfl),⟨hbh,hk,hy⟩,hh⟩))))))))))))))))))
 .intro w hE hH
  refine Ey func80 I hH (Cs I (Mv 2 I (Ak I (Af (Cs I (Mv 2 I (Lfa BX I Z3 I (Lq I (Al I G3 I (Hat 0 I) (Wr.mid _ (j:=0) I)) (Mv 2 I (Sb 14 true I (I) (Mv 3 I (Lfa BX I Z3 I (Lo G3 0 I (l_e I (Ee [_] (Ha h t) I call82 Tt (λ_ _=>Pw (St _ _ (_::HQ.H (x))) ?_))))))))))))))))
  refine Sv' 20 (.bool true) I (by rw[hmay]) (Lq I (Qy I) (Nk (Ah I (Do8 [1,2,3,4,6,7,8,0,5,9,10] 159651 (λw2=>(WRE b (⟨t,m,1,true,(.pointer none),0⟩:Wr)).at w2) I St.drawn (Hat 0 I) (Md 2 I (Dfa BX I Z3 I (Dq I (Al I G3 I Ih (Wr.mid _ (j:=0) I)) (Md 3 I (d_e I (E1 (F8) I call124 Tt (λ_ _=>Ai (Hat 0 I) (Dq I (D6 (v:=fnV 183) I I I (λw=>by kernel_rfl)) (d_t I (Ff [] (fW h ht b m sq hu hr hb hd hsm) I I I I call183 I Tt ?_))))))))))))))
  rintro y ⟨hbh,hk,hy⟩
  refine Pw (St _ _ (_::HQ.H (y))) ?_
  exact d_t I (e_q I I (AF I I) (AL (Ks (Do8 (rg 13) 1062882 _ I St.drawn Ih (Md 2 I (Dfa BX I Z3 I (Dq I (Al I G3 I (Hat 0 I) (Wr.mid _ (j:=0) I)) (Md 4 I (Dfa BX I Z44 I (Dq I (Al I G44 I (Hat 0 I) (Wr.mid _ (j:=3) I)) (Md 2 I (d_t I (e_q I I (AF I I) (AL (Kt (Ag (Bg (rs:=[.tmp 6,.tmp 7,.tmp 8]) I I (λ_ hh=>⟨(br,y),congrArg (λz=>Ending.returned (Value.tuple #[Value.bool z,.bool _,.int .i64 _])) (I),⟨hbh,hk,hy⟩,hh⟩))))))))))))))))))
 .intro w hE hH
  refine Ey func80 I hH (Cs I (Mv 2 I (Ak I (Af (Cs I (Mv 2 I (Lfa BX I Z3 I (Lq I (Al I G3 I (Hat 0 I) (Wr.mid _ (j:=0) I)) (Mv 2 I (Sb 14 true I (I) (Mv 3 I (Lfa BX I Z3 I (Lo G3 0 I (l_e I (Ee [_] (Ha h t) I call82 Tt (λ_ _=>Pw (St _ _ (_::HQ.H (x))) ?_))))))))))))))))
  refine Sv' 20 (.bool true) I (by rw[hmay]) (Lq I (Qy I) (Nk (Ah I (Do8 [1,2,3,4,6,7,8,0,5,9,10] 159651 (λw2=>(WRE b (⟨t,m,2,true,(.pointer none),0⟩:Wr)).at w2) I St.drawn (Hat 0 I) (Md 2 I (Dfa BX I Z3 I (Dq I (Al I G3 I Ih (Wr.mid _ (j:=0) I)) (Md 3 I (d_e I (E1 (F8) I call124 Tt (λ_ _=>Ai (Hat 0 I) (Dq I (D6 (v:=fnV 184) I I I (λw=>by kernel_rfl)) (d_t I (Ff [] (fX h ht b m sq hB hf) I I I I call184 I Tt ?_))))))))))))))
  rintro y ⟨hbh,hk,hy⟩
  refine Pw (St _ _ (_::HQ.H (y))) ?_
  exact d_t I (e_q I I (AF I I) (AL (Ks (Do8 (rg 13) 1062882 _ I St.drawn Ih (Md 2 I (Dfa BX I Z3 I (Dq I (Al I G3 I (Hat 0 I) (Wr.mid _ (j:=0) I)) (Md 4 I (Dfa BX I Z44 I (Dq I (Al I G44 I (Hat 0 I) (Wr.mid _ (j:=3) I)) (Md 2 I (d_t I (e_q I I (AF I I) (AL (Kt (Ag (Bg (rs:=[.tmp 6,.tmp 7,.tmp 8]) I I (λ_ hh=>⟨(br,y),congrArg (λz=>Ending.returned (Value.tuple #[Value.bool z,.bool _,.int .i64 _])) (I),⟨hbh,hk,hy⟩,hh⟩))))))))))))))))))
 .intro w hE hH
  refine Ey func80 I hH (Cs I (Mv 2 I (Ak I (Af (Cs I (Mv 2 I (Lfa BX I Z3 I (Lq I (Al I G3 I (Hat 0 I) (Wr.mid _ (j:=0) I)) (Mv 2 I (Sb 14 true I (I) (Mv 3 I (Lfa BX I Z3 I (Lo G3 0 I (l_e I (Ee [_] (Ha h t) I call82 Tt (λ_ _=>Pw (St _ _ (_::HQ.H (x))) ?_))))))))))))))))
  refine Sv' 20 (.bool true) I (by rw[hmay]) (Lq I (Qy I) (Nk (Ah I (Do8 [1,2,3,4,6,7,8,0,5,9,10] 159651 (λw2=>(WRE b (⟨t,m,3,true,(.pointer none),0⟩:Wr)).at w2) I St.drawn (Hat 0 I) (Md 2 I (Dfa BX I Z3 I (Dq I (Al I G3 I Ih (Wr.mid _ (j:=0) I)) (Md 3 I (d_e I (E1 (F8) I call124 Tt (λ_ _=>Ai (Hat 0 I) (Dq I (D6 (v:=fnV 185) I I I (λw=>by kernel_rfl)) (d_t I (Ff [] (XS h ht b m sq hsq hf hlf hri hri2 hwr hhs hft hsm2) I I I I call185 I Tt ?_))))))))))))))
  rintro y ⟨hbh,hk,hy⟩
  refine Pw (St _ _ (_::HQ.H (y))) ?_
  exact d_t I (e_q I I (AF I I) (AL (Ks (Do8 (rg 13) 1062882 _ I St.drawn Ih (Md 2 I (Dfa BX I Z3 I (Dq I (Al I G3 I (Hat 0 I) (Wr.mid _ (j:=0) I)) (Md 4 I (Dfa BX I Z44 I (Dq I (Al I G44 I (Hat 0 I) (Wr.mid _ (j:=3) I)) (Md 2 I (d_t I (e_q I I (AF I I) (AL (Kt (Ag (Bg (rs:=[.tmp 6,.tmp 7,.tmp 8]) I I (λ_ hh=>⟨(br,y),congrArg (λz=>Ending.returned (Value.tuple #[Value.bool z,.bool _,.int .i64 _])) (I),⟨hbh,hk,hy⟩,hh⟩))))))))))))))))))
 .intro w hE hH
  refine Ey func80 I hH (Cs I (Mv 2 I (Ak I (Af (Cs I (Mv 2 I (Lfa BX I Z3 I (Lq I (Al I G3 I (Hat 0 I) (Wr.mid _ (j:=0) I)) (Mv 2 I (Sb 14 true I (I) (Mv 3 I (Lfa BX I Z3 I (Lo G3 0 I (l_e I (Ee [_] (Ha h t) I call82 Tt (λ_ _=>Pw (St _ _ (_::HQ.H (x))) ?_))))))))))))))))
  refine Sv' 20 (.bool true) I (by rw[hmay]) (Lq I (Qy I) (Nk (Ah I (Do8 [1,2,3,4,6,7,8,0,5,9,10] 159651 (λw2=>(WRE b (⟨t,m,3,true,(.pointer none),0⟩:Wr)).at w2) I St.drawn (Hat 0 I) (Md 2 I (Dfa BX I Z3 I (Dq I (Al I G3 I Ih (Wr.mid _ (j:=0) I)) (Md 3 I (d_e I (E1 (F8) I call124 Tt (λ_ _=>Ai (Hat 0 I) (Dq I (D6 (v:=fnV 185) I I I (λw=>by kernel_rfl)) (d_t I (Ff [] (XT h ht b m sq hsq hf hlf hri hri2 hwr hhs hft hsm2) I I I I call185 I Tt ?_))))))))))))))
  rintro y ⟨hbh,hk,hy⟩
  refine Pw (St _ _ (_::HQ.H (y))) ?_
  exact d_t I (e_q I I (AF I I) (AL (Ks (Do8 (rg 13) 1062882 _ I St.drawn Ih (Md 2 I (Dfa BX I Z3 I (Dq I (Al I G3 I (Hat 0 I) (Wr.mid _ (j:=0) I)) (Md 4 I (Dfa BX I Z44 I (Dq I (Al I G44 I (Hat 0 I) (Wr.mid _ (j:=3) I)) (Md 2 I (d_t I (e_q I I (AF I I) (AL (Kt (Ag (Bg (rs:=[.tmp 6,.tmp 7,.tmp 8]) I I (λ_ hh=>⟨(br,y),congrArg (λz=>Ending.returned (Value.tuple #[Value.bool z,.bool _,.int .i64 _])) (I),⟨hbh,hk,hy⟩,hh⟩))))))))))))))))))
 .intro w hE hH
  refine Ey func80 I hH (Cs I (Mv 2 I (Ak I (Af (Cs I (Mv 2 I (Lfa BX I Z3 I (Lq I (Al I G3 I (Hat 0 I) (Wr.mid _ (j:=0) I)) (Mv 2 I (Sb 14 true I (I) (Mv 3 I (Lfa BX I Z3 I (Lo G3 0 I (l_e I (Ee [_] (Ha h t) I call82 Tt (λ_ _=>Pw (St _ _ (_::HQ.H (x))) ?_))))))))))))))))
  refine Sv' 20 (.bool true) I (by rw[hmay]) (Lq I (Qy I) (Nk (Ah I (Do8 [1,2,3,4,6,7,8,0,5,9,10] 159651 (λw2=>(WRE b (⟨t,m,3,true,(.pointer none),0⟩:Wr)).at w2) I St.drawn (Hat 0 I) (Md 2 I (Dfa BX I Z3 I (Dq I (Al I G3 I Ih (Wr.mid _ (j:=0) I)) (Md 3 I (d_e I (E1 (F8) I call124 Tt (λ_ _=>Ai (Hat 0 I) (Dq I (D6 (v:=fnV 185) I I I (λw=>by kernel_rfl)) (d_t I (Ff [] (XU h b m sq hsq hf hlf hri hri2 hft) I I I I call185 I Tt ?_))))))))))))))
  rintro bq _
  refine Pw (St _ _ (_::_::HQ.H (x))) ?_
  exact d_t I (e_q I I (AF I I) (AL (Ks (Do8 (rg 13) 1062882 _ I St.drawn Ih (Md 2 I (Dfa BX I Z3 I (Dq I (Al I G3 I (Hat 1 I) (Wr.mid _ (j:=0) I)) (Md 4 I (Dfa BX I Z44 I (Dq I (Al I G44 I (Hat 1 I) (Wr.mid _ (j:=3) I)) (Md 2 I (d_t I (e_q I I (AF I I) (AL (Kt (Ag (Bg (rs:=[.tmp 6,.tmp 7,.tmp 8]) I I (λ_ hh=>⟨(bq,x),congrArg (λz=>Ending.returned (Value.tuple #[Value.bool z,.bool _,.int .i64 _])) (I),⟨rfl,h,rfl⟩,hh⟩))))))))))))))))))
 .intro w hE hH
  refine Ey func80 I hH (Cs I (Mv 2 I (Ak I (Af (Cs I (Mv 2 I (Lfa BX I Z3 I (Lq I (Al I G3 I (Hat 1 I) (Wr.mid _ (j:=0) I)) (Mv 2 I (Sb 14 true I (I) (Mv 3 I (Lfa BX I Z3 I (Lo G3 1 I (l_e I (Ee [_,_] (Ha h t) I call82 Tt (λ_ _=>Pw (St _ _ (_::_::HQ.H (x))) ?_))))))))))))))))
  refine Sv' 20 (.bool true) I (by rw[hmay]) (Lq I (Qy I) (Nk (Ah I (Do8 [1,2,3,4,6,7,8,0,5,9,10] 159651 (λw2=>(WRE b (⟨t,m,4,true,(ptV br),0⟩:Wr)).at w2) I St.drawn (Hat 1 I) (Md 2 I (Dfa BX I Z3 I (Dq I (Al I G3 I Ih (Wr.mid _ (j:=0) I)) (Md 3 I (d_e I (E1 (F8) I call124 Tt (λ_ _=>Ai (Hat 1 I) (Dq I (D6 (v:=fnV 186) I I I (λw=>by kernel_rfl)) (d_t I (Ff [] (fZ h ht hmay br hf hR hl b m sq) I I I I call186 I Tt ?_))))))))))))))
  rintro y ⟨hbh,hk,hy⟩
  refine Pw (St _ _ (_::_::HQ.H (y))) ?_
  exact d_t I (e_q I I (AF I I) (AL (Ks (Do8 (rg 13) 1062882 _ I St.drawn Ih (Md 2 I (Dfa BX I Z3 I (Dq I (Al I G3 I (Hat 1 I) (Wr.mid _ (j:=0) I)) (Md 4 I (Dfa BX I Z44 I (Dq I (Al I G44 I (Hat 1 I) (Wr.mid _ (j:=3) I)) (Md 2 I (d_t I (e_q I I (AF I I) (AL (Kt (Ag (Bg (rs:=[.tmp 6,.tmp 7,.tmp 8]) I I (λ_ hh=>⟨(br,y),bJ t m br a1 hs en e,⟨hbh,hk,hy⟩,jb _ _ _ _ _ _ _ _ hh⟩))))))))))))))))))
theorem Con.conv {P:Program} {H:List Ent} {u:Value} {p:β->Prop} {p':γ->Prop} {HB:β->List Ent} {HB':γ->List Ent} (s:Con P f vs E H (λ_:β=>u) p HB) (hH:H'=H) (g:β->γ) (hg:∀b,p b->p' (g b)/\HB b=HB' (g b)):Con P f vs E H' (λ_:γ=>u) p' HB':=λw he hh=>by
 subst hH
 exact (s w he hh).mono (λe w' ⟨b,h1,h2,h3⟩=>⟨g b,h1,(hg b h2).1,by rw[<-(hg b h2).2];exact h3⟩)
structure Opn where
 kind:Int
 key:ByteArray
 val:ByteArray
 by':Int
 wk:(Lit.int .i64 kind).wf=true
 wb:(Lit.int .u64 by').wf=true
def Opn.c (o:Opn):List Value:=[.int .i64 o.kind,.string o.key,.string o.val,.int .u64 o.by']
theorem Opn.one (o:Opn):∀v∈o.c,v.oneCell'=true:=λv hv=>by
 simp only[Opn.c,kN,nt,nu] at hv
 rcases hv with rfl|rfl|rfl|rfl<;>rfl
def Opn.enc:Enc Opn:=⟨4,Opn.c,λ_=>rfl,Opn.one,by decide⟩
structure Ans where
 code:Int
 f:Bool
 v:Kv 16
def Ans.c (a:Ans):List Value:=[.int .i64 a.code,.bool a.f]++a.v.c
theorem Ans.ko (a:Ans):a.c.length=19:=by simp[Ans.c,Kv.ko]
theorem Ans.one (a:Ans):∀v∈a.c,v.oneCell'=true:=λv hv=>by
 rcases mT.1 hv with h|h
 .simp at h;rcases h with rfl|rfl<;>rfl
 .exact Kv.one _ v h
def BC:Ans:=⟨0,false,kv0 16⟩
structure Evt where
 cl:Int
 ix:Int
 d:Bool
 a:Ans
def Evt.c (e:Evt):List Value:=[.int .i64 e.cl,.int .i64 e.ix,.bool e.d]++e.a.c
theorem Evt.ko (e:Evt):e.c.length=22:=by simp[Evt.c,Ans.ko]
theorem Evt.one (e:Evt):∀v∈e.c,v.oneCell'=true:=λv hv=>by
 rcases mT.1 hv with h|h
 .simp at h;rcases h with rfl|rfl|rfl<;>rfl
 .exact Ans.one _ v h
def Evt.enc:Enc Evt:=⟨22,Evt.c,Evt.ko,Evt.one,by decide⟩
def kOf (o:Opn):Kv 8:=if h:o.key.size<=8 then kof o.key h else kv0 8
def vOf (o:Opn):Kv 16:=if h:o.val.size<=16 then vof o.val h else kv0 16
def mOf (o:Opn):Ms:=⟨o.kind,0,kOf o,if o.kind=1 then vOf o else kv0 16,if o.kind=3 then o.by' else 0,o.wk,by decide,by split<;>first|exact o.wb|decide⟩
structure Opn.Ok (o:Opn):Prop where
 k:o.key.size<=8
 v:o.kind=1->o.val.size<=16
inductive Ph where
 |idle
 |rd (r:Rdr)
 |wr (v:Wv)
def Ph.isI:Ph->Bool
 |.idle=>true
 |_=>false
structure Cl where
 ops:List Opn
 nx:Nat
 ph:Ph
def Cl.op (c:Cl):Opn:=c.ops.getD c.nx ⟨0,⟨#[]⟩,⟨#[]⟩,0,by decide,by decide⟩
def Cl.ended (c:Cl):Bool:=c.ph.isI&&decide (c.nx=c.ops.length)
structure CC where
 b:Nat
 vo:Value
 bw:Nat
 br:Nat
 m:Cl
def CC.ptrs (c:CC):List Value:=match c.m.ph with
 |.idle=>[.pointer none,.pointer none]
 |.rd _=>[ptV c.bw,.pointer none]
 |.wr _=>[.pointer none,ptV c.bw]
def CC.more (t:Int) (c:CC):List Ent:=match c.m.ph with
 |.idle=>[]
 |.rd r=>[RDE c.bw r]
 |.wr v=>v.H t (mOf c.m.op) c.bw c.br
abbrev CLE (b:Nat) (vo:Value) (nx:Nat) (ps:List Value):Ent:=Ad b 125 (vo::.int .i64 (nx:Int)::ps)
def CC.H (t:Int) (c:CC):List Ent:=CLE c.b c.vo c.m.nx c.ptrs::AA c.vo 43 Opn.enc c.m.ops::c.more t
def evB (t:Int) (c:Cl):Evt:=⟨t,c.nx,false,BC⟩
def evD (t:Int) (c:Cl) (a:Ans):Evt:=⟨t,c.nx,true,a⟩
def Cl.done (c:Cl):Cl:={c with nx:=c.nx+1,ph:=.idle}
def Hm.fi (L:Hm) (b:Int):Nat:=(L.M.frI b 2).getD 0
def Hm.nd (L:Hm) (b:Int):Nd:=(L.M.at' (L.fi b)).nd
theorem Hm.fi_eq {L:Hm} {b:Int} (h:(L.M.frI b 2).isSome):L.M.frI b 2=some (L.fi b):=by
 unfold Hm.fi
 cases hx:L.M.frI b 2 with
 |none=>rw[hx] at h;cases h
 |some i=>rfl
def rdS (L:Hm) (r:Rdr):Hm×Rdr×Bool :=
 if r.at'=1 then ((L.pin r.t r.blk).2,r.pinned (L.pin r.t r.blk).1,false)
 else if r.at'=2 then (L.load r.blk ndL,{r with at':=3},false)
 else if r.at'=3 then (L.take (L.fi r.blk) r.t false,if r.abv=true then {r with at':=4} else {r with at':=5},false)
 else if r.at'=4 then (L.leave (L.fi r.par) r.t r.par,{r with at':=5,abv:=false},false)
 else match (L.nd r.blk).kids[ET (L.nd r.blk).piv r.k]? with
  |some kid=>(L,r.down (L.nd r.blk).msgs kid.toNat,false)
  |none=>(L.leave (L.fi r.blk) r.t r.blk,r.fin (L.nd r.blk).es,true)
def ldP (L:Hm) (k:Nat) (t:Int):Prop:=L.s.us[k]?=some true/\Co (k:Int) L.rd=some t/\∃bk,L.s.bl[k]?=some bk/\bk.l=DH
def rdP (L:Hm) (r:Rdr):Prop :=
 if r.at'=1 then L.s.us[r.blk]?=some true/\r.blk<=256
 else if r.at'=2 then ldP L r.blk r.t
 else if r.at'=3 then (L.M.frI r.blk 2).isSome=true
 else if r.at'=4 then (L.M.frI r.par 2).isSome=true/\De (L.lat (L.fi r.par)) r.t=true
 else r.at'=5/\(L.M.frI r.blk 2).isSome=true/\((∃kid:Nat,(L.nd r.blk).kids[ET (L.nd r.blk).piv r.k]?=some (kid:Int)/\BE Ms.key (L.nd r.blk).msgs)\/((L.nd r.blk).kids=[]/\BG (L.nd r.blk).es/\De (L.lat (L.fi r.blk)) r.t=true))
theorem Tw (h:x.Ok B) (hB:B+1<=60000) (b:Nat) (r:Rdr) (ht:tkB r.t) (hmay:x.hm.may r.t) (hp:rdP x.hm r):Con prog 77 [ptV b,ptV x.bh] Tr (RDE b r::x.H) (λ_:HQ=>.bool (rdS x.hm r).2.2) (λy=>y.bh=x.bh/\y.Ok (B+1)/\y.hm=(rdS x.hm r).1) (λy=>RDE b (rdS x.hm r).2.1::y.H):=by
 have hm1:∀{y:HQ},y.Ok B->y.Ok (B+1):=λk=>k.mono (by omega) hB
 unfold rdP at hp
 unfold rdS
 by_cases h1:r.at'=1
 .rw[lu h1] at hp
  simp only[h1,mA]
  exact iW h b r ht hmay h1 hB hp.1 hp.2
 rw[lz h1] at hp
 simp only[h1,nz]
 by_cases h2:r.at'=2
 .rw[lu h2] at hp
  obtain⟨hu,hr,bk,hb,he⟩:=hp
  simp only[h2,mA]
  exact Con.conv (fR h b r ht hmay h2 hu hr hb (nd:=ndL) (by rw[he];exact I9) (Kw _)) I id (λy hy=>⟨⟨hy.1,hm1 hy.2.1,hy.2.2⟩,rfl⟩)
 rw[lz h2] at hp
 simp only[h2,nz]
 by_cases h3:r.at'=3
 .rw[lu h3] at hp
  simp only[h3,mA]
  exact fS h b r ht hmay h3 hB (x.hm.fi_eq hp)
 rw[lz h3] at hp
 simp only[h3,nz]
 by_cases h4:r.at'=4
 .rw[lu h4] at hp
  simp only[h4,mA]
  exact Con.conv (bD h b r ht hmay h4 (x.hm.fi_eq hp.1) hp.2) I id (λy hy=>⟨⟨hy.1,hm1 hy.2.1,hy.2.2⟩,rfl⟩)
 rw[lz h4] at hp
 simp only[h4,nz]
 obtain⟨h5,hf,hq⟩:=hp
 rcases hq with⟨kid,hk,hr⟩|⟨hk,hr,hh⟩
 .rw[hk]
  exact Con.conv (fU h b r ht hmay h5 (x.hm.fi_eq hf) hr hk) I (λ_=>x) (λy hy=>⟨⟨rfl,hm1 h,rfl⟩,rfl⟩)
 .rw[show (x.hm.nd r.blk).kids[ET (x.hm.nd r.blk).piv r.k]?=none by rw[hk];rfl]
  exact Con.conv (iX h b r ht hmay h5 (x.hm.fi_eq hf) hk hr hh) I id (λy hy=>⟨⟨hy.1,hm1 hy.2.1,hy.2.2⟩,rfl⟩)
def Hm.ids (L:Hm):Nat×Nat:=((L.s.al 2).1.getD 0 0,(L.s.al 2).1.getD 1 0)
def Hm.grow (L:Hm) (t:Int):Hm:=((({L with s:=(L.s.al 2).2}:Hm).setN 0 ⟨false,[],[(L.ids.1:Int),(L.ids.2:Int)],[((L.nd 0).es.getD (spl (L.nd 0).es) en0).key],[]⟩).name t L.ids.1 (lfN ((L.nd 0).es.take (spl (L.nd 0).es)))).name t L.ids.2 (lfN ((L.nd 0).es.drop (spl (L.nd 0).es)))
structure dY (L:Hm) (t:Int):Prop where
 hlf:(L.nd 0).leaf=true
 hbd:∀e∈(L.nd 0).es,e.Bd
 h2l:2<=(L.nd 0).es.length
 hpos:0<lby (L.nd 0).es
 hn3:(L.nd 0).es.length<=30000
 hls:2<=L.s.left
 hal:∀j,j<2->∃k,(L.s.al j).2.fr=some k
 hal2:(L.s.al 2).1=[L.ids.1,L.ids.2]
 hne:L.ids.1≠L.ids.2
 hia:idB L.ids.1=true
 hib:idB L.ids.2=true
 hua:(L.s.al 2).2.us[L.ids.1]?=some true
 hub:(L.s.al 2).2.us[L.ids.2]?=some true
 hwr:(L.lat (L.fi 0)).wr=t
 hfr:FN ⟨false,[],[(L.ids.1:Int),(L.ids.2:Int)],[((L.nd 0).es.getD (spl (L.nd 0).es) en0).key],[]⟩=true
 hsr:(⟨false,[],[(L.ids.1:Int),(L.ids.2:Int)],[((L.nd 0).es.getD (spl (L.nd 0).es) en0).key],[]⟩:Nd).Sm 1000
 hfx:FN (lfN ((L.nd 0).es.take (spl (L.nd 0).es)))=true
 hsx:(lfN ((L.nd 0).es.take (spl (L.nd 0).es))).Sm 1000
 hfy:FN (lfN ((L.nd 0).es.drop (spl (L.nd 0).es)))=true
 hsy:(lfN ((L.nd 0).es.drop (spl (L.nd 0).es))).Sm 1000
def wrS (t:Int) (L:Hm) (m:Ms) (v:Wv):Hm×Wv×Bool :=
 if v.a=0 then ((L.pin t ((0:Nat):Int)).2,⟨(Ja (L.pin t ((0:Nat):Int)).1).1,(Ja (L.pin t ((0:Nat):Int)).1).2,none,0⟩,false)
 else if v.a=1 then (L.load 0 ndL,⟨2,true,none,0⟩,false)
 else if v.a=2 then (L.take (L.fi 0) t true,⟨3,true,none,0⟩,false)
 else if v.a=3 then
  if (L.nd 0).leaf=true then
   if Cv (Dd (L.nd 0) m)=true then ((L.setN 0 (Dd (L.nd 0) m)).leave (L.fi 0) t 0,⟨5,false,none,0⟩,true) else (L,⟨4,true,some (1,true,0),0⟩,false)
  else ((L.setN 0 (Ek (L.nd 0) m)).leave (L.fi 0) t 0,⟨5,false,none,0⟩,true)
 else match v.r with
  |some (a0,_,_) =>
   if a0=1 then (L,⟨4,true,some (6,true,0),0⟩,false)
   else if a0=6 then ((L.claim t).2,⟨4,true,some (7,true,0),0⟩,false)
   else if a0=7 then ((L.claim t).2,⟨4,true,some (10,true,0),0⟩,false)
   else if L.s.left<2 then ((L.give t).leave (L.fi 0) t 0,⟨5,false,none,3⟩,false)
   else (L.grow t,⟨3,true,none,0⟩,false)
  |none=>(L,v,false)
def wrP (t:Int) (L:Hm) (m:Ms) (v:Wv):Prop :=
 if v.a=0 then v=⟨0,false,none,0⟩/\L.s.us[0]?=some true
 else if v.a=1 then v=⟨1,true,none,0⟩/\ldP L 0 t
 else if v.a=2 then v=⟨2,true,none,0⟩/\(L.M.frI 0 2).isSome=true
 else if v.a=3 then v=⟨3,true,none,0⟩/\(L.M.frI 0 2).isSome=true/\(L.lat (L.fi 0)).wr=t/\De (L.lat (L.fi 0)) t=true /\
  (if (L.nd 0).leaf=true then BG (L.nd 0).es/\BG (Bs (L.nd 0).es m)/\(Cv (Dd (L.nd 0) m)=true->(Dd (L.nd 0) m).Sm 1000)
   else BE Ms.key (L.nd 0).msgs/\BE Ms.key (C9 (L.nd 0).msgs m)/\GC (Ek (L.nd 0) m)=true/\(Ek (L.nd 0) m).Sm 1000)
 else ∃a0,v=⟨4,true,some (a0,true,0),0⟩/\(L.M.frI 0 2).isSome=true /\
  ((a0=1/\(L.nd 0).leaf=true/\2<=(L.nd 0).es.length)\/(a0=6/\(L.claim t).1=true)\/(a0=7/\(L.claim t).1=true) \/
   (a0=10/\2<=L.M.claims t/\(L.s.left<2->(L.give t).M.frI 0 2=some (L.fi 0)/\De (L.lat (L.fi 0)) t=true)/\(¬L.s.left<2->dY L t)))
theorem ga (hB:B+1<=60000) {t:Int} {m:Ms} {sq:Int} (hsq:(Lit.int .u64 sq).wf) {v:Wv} (hp:wrP t x.hm (m.kA sq hsq) v):∃B2,B2<=B+1/\B<=B2/\WS x B t m sq v (wrS t x.hm (m.kA sq hsq) v).2.1 (wrS t x.hm (m.kA sq hsq) v).2.2 (wrS t x.hm (m.kA sq hsq) v).1 B2:=by
 unfold wrP at hp
 unfold wrS
 by_cases h0:v.a=0
 .rw[lu h0] at hp
  obtain⟨rfl,hu⟩:=hp
  exact⟨B+1,lJ _,by omega,WS.pin hB hu⟩
 rw[lz h0] at hp
 simp only[h0,nz]
 by_cases h1:v.a=1
 .rw[lu h1] at hp
  obtain⟨rfl,hu,hr,bk,hb,he⟩:=hp
  exact⟨B,by omega,lJ _,WS.load hu hr hb (nd:=ndL) (by rw[he];exact I9) (Kw _)⟩
 rw[lz h1] at hp
 simp only[h1,nz]
 by_cases h2:v.a=2
 .rw[lu h2] at hp
  obtain⟨rfl,hf⟩:=hp
  exact⟨B+1,lJ _,by omega,WS.take hB (x.hm.fi_eq hf)⟩
 rw[lz h2] at hp
 simp only[h2,nz]
 by_cases h3:v.a=3
 .rw[lu h3] at hp
  obtain⟨rfl,hf,hw,hh,hq⟩:=hp
  have hf':=x.hm.fi_eq hf
  simp only[mA]
  refine⟨B,by omega,lJ _,?_⟩
  by_cases hl:(x.hm.nd 0).leaf=true
  .rw[lu hl] at hq
   rw[lu hl]
   by_cases hft:Cv (Dd (x.hm.nd 0) (m.kA sq hsq))=true
   .rw[lu hft]
    exact WS.leaf hsq hf' hl hq.1 hq.2.1 hw hh hft (hq.2.2 hft)
   .rw[lz hft]
    exact WS.no hsq hf' hl hq.1 hq.2.1 (m9.2 hft)
  .rw[lz hl] at hq
   rw[lz hl]
   exact WS.inner hsq hf' (m9.2 hl) hq.1 hq.2.1 hw hh hq.2.2.1 hq.2.2.2
 rw[lz h3] at hp
 simp only[h3,nz]
 obtain⟨a0,rfl,hf,hq⟩:=hp
 have hf':=x.hm.fi_eq hf
 dsimp only
 rcases hq with⟨rfl,hl,hn⟩|⟨rfl,hc⟩|⟨rfl,hc⟩|⟨rfl,hcl,hfu,hgr⟩
 .exact⟨B,by omega,lJ _,WS.room hf' (RS.choose hl hn) (λh=>by cases h)⟩
 .exact⟨B+1,lJ _,by omega,WS.room hf' (RS.first hB hc) (λh=>by cases h)⟩
 .exact⟨B+1,lJ _,by omega,WS.room hf' (RS.second hB hc) (λh=>by cases h)⟩
 .refine⟨B,by omega,lJ _,?_⟩
  by_cases hls:x.hm.s.left<2
  .simp only[hls,mA]
   exact WS.room hf' (RS.full hcl hls) (λ_ _=>hfu hls)
  .have g:=hgr hls
   simp only[hls,nz]
   exact WS.room hf' (RS.grow g.hlf g.hbd g.h2l g.hpos g.hn3 hcl g.hls g.hal g.hal2 g.hne g.hia g.hib g.hua g.hub g.hwr g.hfr g.hsr g.hfx g.hsx g.hfy g.hsy) (λ_ h=>by cases h)
theorem jc (vn i0 i1 i2 i3 i4 i5 i6 i7 i8 i9 j0 j1 j2 j3 j4 j5:Int) (f:Bool) (w:World):(Instr.build 58 #[(1,.bool f),(2,.agg [.int .i64 vn,.int .u8 i0,.int .u8 i1,.int .u8 i2,.int .u8 i3,.int .u8 i4,.int .u8 i5,.int .u8 i6,.int .u8 i7,.int .u8 i8,.int .u8 i9,.int .u8 j0,.int .u8 j1,.int .u8 j2,.int .u8 j3,.int .u8 j4,.int .u8 j5].toArray)]).run prog w=.ok (.agg [.int .i64 0,.bool f,.int .i64 vn,.int .u8 i0,.int .u8 i1,.int .u8 i2,.int .u8 i3,.int .u8 i4,.int .u8 i5,.int .u8 i6,.int .u8 i7,.int .u8 i8,.int .u8 i9,.int .u8 j0,.int .u8 j1,.int .u8 j2,.int .u8 j3,.int .u8 j4,.int .u8 j5].toArray) w:=by kernel_rfl
theorem jd (f:Bool) (v:Kv 16) (w:World):(Instr.build 58 #[(1,.bool f),(2,.agg v.c.toArray)]).run prog w=.ok (.agg (Ans.c ⟨0,f,v⟩).toArray) w:=by
 obtain⟨i0,i1,i2,i3,i4,i5,i6,i7,i8,i9,j0,j1,j2,j3,j4,j5,hv⟩:=K1 v
 have e1:v.c=[.int .i64 v.n,.int .u8 i0,.int .u8 i1,.int .u8 i2,.int .u8 i3,.int .u8 i4,.int .u8 i5,.int .u8 i6,.int .u8 i7,.int .u8 i8,.int .u8 i9,.int .u8 j0,.int .u8 j1,.int .u8 j2,.int .u8 j3,.int .u8 j4,.int .u8 j5]:=by unfold Kv.c;rw[hv];rfl
 unfold Ans.c
 dsimp only
 rw[e1]
 exact jc v.n i0 i1 i2 i3 i4 i5 i6 i7 i8 i9 j0 j1 j2 j3 j4 j5 f w
theorem jT (t k code vn i0 i1 i2 i3 i4 i5 i6 i7 i8 i9 j0 j1 j2 j3 j4 j5:Int) (f:Bool) (w:World):(Instr.build 71 #[(0,.int .i64 t),(1,.int .i64 k),(2,.bool true),(3,.agg [.int .i64 code,.bool f,.int .i64 vn,.int .u8 i0,.int .u8 i1,.int .u8 i2,.int .u8 i3,.int .u8 i4,.int .u8 i5,.int .u8 i6,.int .u8 i7,.int .u8 i8,.int .u8 i9,.int .u8 j0,.int .u8 j1,.int .u8 j2,.int .u8 j3,.int .u8 j4,.int .u8 j5].toArray)]).run prog w=.ok (.agg [.int .i64 t,.int .i64 k,.bool true,.int .i64 code,.bool f,.int .i64 vn,.int .u8 i0,.int .u8 i1,.int .u8 i2,.int .u8 i3,.int .u8 i4,.int .u8 i5,.int .u8 i6,.int .u8 i7,.int .u8 i8,.int .u8 i9,.int .u8 j0,.int .u8 j1,.int .u8 j2,.int .u8 j3,.int .u8 j4,.int .u8 j5].toArray) w:=by kernel_rfl
theorem bev (t k:Int) (a:Ans) (w:World):(Instr.build 71 #[(0,.int .i64 t),(1,.int .i64 k),(2,.bool true),(3,.agg a.c.toArray)]).run prog w=.ok (.agg (Evt.c ⟨t,k,true,a⟩).toArray) w:=by
 obtain⟨code,f,v⟩:=a
 obtain⟨i0,i1,i2,i3,i4,i5,i6,i7,i8,i9,j0,j1,j2,j3,j4,j5,hv⟩:=K1 v
 have e1:v.c=[.int .i64 v.n,.int .u8 i0,.int .u8 i1,.int .u8 i2,.int .u8 i3,.int .u8 i4,.int .u8 i5,.int .u8 i6,.int .u8 i7,.int .u8 i8,.int .u8 i9,.int .u8 j0,.int .u8 j1,.int .u8 j2,.int .u8 j3,.int .u8 j4,.int .u8 j5]:=by unfold Kv.c;rw[hv];rfl
 unfold Evt.c Ans.c
 dsimp only
 rw[e1]
 exact jT t k code v.n i0 i1 i2 i3 i4 i5 i6 i7 i8 i9 j0 j1 j2 j3 j4 j5 f w
theorem je (ki kn a b c d e f g h:Int) (w:World):(Instr.build 154 #[(0,.int .i64 ki),(2,.agg [.int .i64 kn,.int .u8 a,.int .u8 b,.int .u8 c,.int .u8 d,.int .u8 e,.int .u8 f,.int .u8 g,.int .u8 h].toArray)]).run prog w=.ok (.agg [.int .i64 ki,.int .u64 0,.int .i64 kn,.int .u8 a,.int .u8 b,.int .u8 c,.int .u8 d,.int .u8 e,.int .u8 f,.int .u8 g,.int .u8 h,.int .i64 0,.int .u8 0,.int .u8 0,.int .u8 0,.int .u8 0,.int .u8 0,.int .u8 0,.int .u8 0,.int .u8 0,.int .u8 0,.int .u8 0,.int .u8 0,.int .u8 0,.int .u8 0,.int .u8 0,.int .u8 0,.int .u8 0,.int .u64 0].toArray) w:=by kernel_rfl
theorem XX (ki:Int) (hk:(Lit.int .i64 ki).wf) (k:Kv 8) (w:World):(Instr.build 154 #[(0,.int .i64 ki),(2,.agg k.c.toArray)]).run prog w=.ok (.agg (Ms.c ⟨ki,0,k,kv0 16,0,hk,by decide,by decide⟩).toArray) w:=by
 obtain⟨a,b,c,d,e,f,g,h,hb⟩:=Gv k
 have e1:k.c=[.int .i64 k.n,.int .u8 a,.int .u8 b,.int .u8 c,.int .u8 d,.int .u8 e,.int .u8 f,.int .u8 g,.int .u8 h]:=by unfold Kv.c;rw[hb];rfl
 unfold Ms.c
 dsimp only
 rw[e1]
 exact je ki k.n a b c d e f g h w
abbrev HSE (bH:Nat) (vh:Value) (bt:Nat) (vT vO vE:Value) (sq pk:Int):Ent:=Ad bH 100 [vh,ptV bt,vT,vO,vE,.int .u64 sq,.int .i64 pk]
theorem Tx (b bw nx:Nat) (vo:Value):Con prog 75 [ptV b] Tr [CLE b vo nx [.pointer none,.pointer none]] (λ_:Unit=>.bool false) Tr (λ_=>[CLE b vo nx [.pointer none,.pointer none]]):=by
 intro w hE hH
 refine Ey func75 I hH ?_
 exact Cs I (Ak I (Cs I (Mv 2 I (Lfa Dj I G8 I (Lo JL 0 I (Lq I (D2 I NC I I) (Lm I (Sb 8 false I (I) (Mv 2 I (Lfa Dj I Gp I (Lo ND 0 I (Lq I (D2 I Uo I I) (Lq I (Qz I) (Ak I (Ag (Ao I I (λ_ h=>⟨(),rfl,T0,h⟩)))))))))))))))))
theorem XY (b bw nx:Nat) (vo:Value):Con prog 75 [ptV b] Tr [CLE b vo nx [ptV bw,.pointer none]] (λ_:Unit=>.bool true) Tr (λ_=>[CLE b vo nx [ptV bw,.pointer none]]):=by
 intro w hE hH
 refine Ey func75 I hH ?_
 exact Cs I (Ak I (Cs I (Mv 2 I (Lfa Dj I G8 I (Lo JL 0 I (Lq I (D2 I NC I I) (Lm I (Sb 8 true I (I) (Mv 6 I (Ak I (Ag (Ao I I (λ_ h=>⟨(),rfl,T0,h⟩)))))))))))))
theorem XZ (b bw nx:Nat) (vo:Value):Con prog 75 [ptV b] Tr [CLE b vo nx [.pointer none,ptV bw]] (λ_:Unit=>.bool true) Tr (λ_=>[CLE b vo nx [.pointer none,ptV bw]]):=by
 intro w hE hH
 refine Ey func75 I hH ?_
 exact Cs I (Ak I (Cs I (Mv 2 I (Lfa Dj I G8 I (Lo JL 0 I (Lq I (D2 I NC I I) (Lm I (Sb 8 false I (I) (Mv 2 I (Lfa Dj I Gp I (Lo ND 0 I (Lq I (D2 I Uo I I) (Lq I (Qz I) (Ak I (Ag (Ao I I (λ_ h=>⟨(),rfl,T0,h⟩)))))))))))))))))
theorem P6 (b bw nx:Nat) (vo:Value) (ops:List Opn):Con prog 37 [ptV b] Tr [CLE b vo nx [.pointer none,.pointer none],AA vo 43 Opn.enc ops] (λ_:Unit=>.bool (decide (nx=ops.length))) Tr (λ_=>[CLE b vo nx [.pointer none,.pointer none],AA vo 43 Opn.enc ops]):=by
 intro w hE hH
 refine Ey func37 I hH ?_
 exact Cs I (Ak I (Af (Do8 (rg 16) 41452401 (λw2=>(CLE b vo nx [.pointer none,.pointer none]).at w2/\RdV w2 vo Opn.enc ops) I St.drawn (Hb 0 1 I) (Dm I (d_e I (Bf (Tx b 0 nx vo) I I I call75 I Tt (λ_ _=>Ai (Hb 0 1 I) (Md 4 I (Dfa Dj I Z3 I (Dq I (Al I G3 I (λ_ h=>h.1) I) (Md 2 I (Dfa Dj I Z40 I (Dq I (Al I G40 I (λ_ h=>h.1) I) (Dq I (AJ I U40 I (λ_ h=>h.2)) (d_t I (e_q I I (Qe I) (d_t I (e_q I I (Qy I) (d_t I (e_q I I (AF I I) (AL (Kt (Ag (Ao I I (λ_ h=>⟨(),congrArg Eb (by rw[oE];omega),T0,h⟩)))))))))))))))))))))))))
theorem bK (b bw nx:Nat) (vo:Value) (ops:List Opn):Con prog 37 [ptV b] Tr [CLE b vo nx [ptV bw,.pointer none],AA vo 43 Opn.enc ops] (λ_:Unit=>.bool (false)) Tr (λ_=>[CLE b vo nx [ptV bw,.pointer none],AA vo 43 Opn.enc ops]):=by
 intro w hE hH
 refine Ey func37 I hH ?_
 exact Cs I (Ak I (Af (Do8 (rg 16) 41452401 (λw2=>(CLE b vo nx [ptV bw,.pointer none]).at w2/\RdV w2 vo Opn.enc ops) I St.drawn (Hb 0 1 I) (Dm I (d_e I (Bf (XY b bw nx vo) I I I call75 I Tt (λ_ _=>Ai (Hb 0 1 I) (Md 12 I (d_t I (e_q I I (Qz I) (d_t I (e_q I I (AF I I) (AL (Kt (Ag (Ao I I (λ_ h=>⟨(),rfl,T0,h⟩)))))))))))))))))
theorem bN (b bw nx:Nat) (vo:Value) (ops:List Opn):Con prog 37 [ptV b] Tr [CLE b vo nx [.pointer none,ptV bw],AA vo 43 Opn.enc ops] (λ_:Unit=>.bool (false)) Tr (λ_=>[CLE b vo nx [.pointer none,ptV bw],AA vo 43 Opn.enc ops]):=by
 intro w hE hH
 refine Ey func37 I hH ?_
 exact Cs I (Ak I (Af (Do8 (rg 16) 41452401 (λw2=>(CLE b vo nx [.pointer none,ptV bw]).at w2/\RdV w2 vo Opn.enc ops) I St.drawn (Hb 0 1 I) (Dm I (d_e I (Bf (XZ b bw nx vo) I I I call75 I Tt (λ_ _=>Ai (Hb 0 1 I) (Md 12 I (d_t I (e_q I I (Qz I) (d_t I (e_q I I (AF I I) (AL (Kt (Ag (Ao I I (λ_ h=>⟨(),rfl,T0,h⟩)))))))))))))))))
theorem F9 (bH bt:Nat) (vh vT vO vE:Value) (sq pk:Int) (ev:List Evt) (hev:ev.length<=60000) (b nx:Nat) (hnx:nx<=1000) (t:Int) (vo p1 p2:Value) (a:Ans):Con prog 79 [ptV bH,.int .i64 t,ptV b,.agg a.c.toArray] Tr [HSE bH vh bt vT vO vE sq pk,AA vE 71 Evt.enc ev,CLE b vo nx [p1,p2]] (λv:Value=>.tuple #[]) Tr (λv=>[HSE bH vh bt vT vO v sq pk,AA v 71 Evt.enc (ev++[⟨t,(nx:Int),true,a⟩]),CLE b vo (nx+1) [.pointer none,.pointer none]]):=by
 intro w hE hH
 refine Ey func79 I hH ?_
 refine Cs I (l_e I (AT I I I I (λba=>Ce a.c I (Ns (Do8 (rg 17) 126482958 (λw2=>(HSE bH vh bt vT vO vE sq pk).at w2/\(CLE b vo nx [p1,p2]).at w2/\(Ad ba 58 a.c).at w2) I St.drawn (Hc 1 3 0 I) (Md 3 I (Dfa Cn I Z34 I (Dq I (Al I isAgg34 I (λ_ h=>h.1) I) (Md 3 I (Dfa Dj I Z3 I (Dq I (Al I G3 I (λ_ h=>h.2.1) I) (Dq I (AQ (a.c) I G58 Z58 I (λ_ h=>h.2.2) (lI (by rw[lE,Ans.ko];decide)) (Ans.ko _)) (Dq I (AP (Evt.c ⟨t,(nx:Int),true,a⟩) I I (bev t (nx:Int) a)) (d_e I (Ax (sz:=22) [.tmp 19] I I I I I U34 Z71 I zeroValue71 (by simp[Value.cells,Evt.ko]) (λb2=>Ai (Hc 2 4 1 I) (D3 (d_e I (Ap U34 U34 Re I (λ_ h=>AY (h.at 1 I) Evt.enc [(⟨t,(nx:Int),true,a⟩:Evt)] I I) (by simp only[lp,kQ,ob];omega) (λv2=>AM (Av (Ai (Hc 2 3 1 I) (d_t I (e_q I I (Bw I I) (d_t I (e_q I I (Ba I Cn I Z34 I I) (Pre.fact (λ_ h=>BW (h.at 0 I)) ?_)))))))))))))))))))))))))))
 rintro⟨av,cv,hv2⟩
 refine AX (d_t I (AG I I Z34 I I (by rw[hv2];rfl) (ng I) (Ce [vh,ptV bt,vT,vO,v2,.int .u64 sq,.int .i64 pk] I (AL (Kt (Cs I (Mv 3 I (Lfa Dj I G8 I (D3 (l_e I (AG I I G8 I I I (ng I) (Ce [vo,.int .i64 (nx:Int),.pointer none,p2] I (Lc I (Lfa Dj I Gp I (l_e I (AG I I Gp I I I (ng I) (Ce [vo,.int .i64 (nx:Int),.pointer none,.pointer none] I (Nk (Cr I (Mv 2 I ?_))))))))))))))))))))
 exact Lfa Dj I Z3 I (Lo G3 0 I (Lq I (Qi I) (Lc I (Lfa Dj I Z3 I (l_e I (AG I I Z3 I I I (ng I) (Ce [vo,.int .i64 ((nx+1:Nat):Int),.pointer none,.pointer none] I (AB (Bp (Pm [3,1,1] I (Av (BB I (λ_ h=>⟨v2,rfl,T0,h⟩)))))))))))))
def m0 (o:Opn):Ms:=⟨o.kind,0,kOf o,kv0 16,0,o.wk,by decide,by decide⟩
theorem Ty {o:Opn} (h:o.kind=1):mOf o=(m0 o).setVal (vOf o):=Ms.ext' rfl rfl rfl (by show (if o.kind=1 then vOf o else kv0 16)=vOf o;rw[lu h]) (by show (if o.kind=3 then o.by' else 0)=0;rw[lz (by rw[h];decide)])
theorem Tz {o:Opn} (h:o.kind=3):mOf o=(m0 o).setBy o.by' o.wb:=Ms.ext' rfl rfl rfl (by show (if o.kind=1 then vOf o else kv0 16)=kv0 16;rw[lz (by rw[h];decide)]) (by show (if o.kind=3 then o.by' else 0)=o.by';rw[lu h])
theorem gb {o:Opn} (h:o.val.size<=16):vOf o=vof o.val h:=by unfold vOf;rw[dif_pos h]
theorem jf (t:Int) (k:Kv 8):Con prog 127 [.int .i64 t,.agg k.c.toArray] Tr [] (λbw:Nat=>ptV bw) Tr (λbw=>[RDE bw (⟨t,k,1,0,0,false,false,ms0,false,kv0 16,false⟩:Rdr)]):=by
 intro w hE hH
 refine E0 func127 I hH ?_
 exact Cs I (l_e I (AT I I I I (λbk=>Ce k.c I (Ak I (Cs I (Lm I (Lq I (Cq (k.c) G77 Z77 0 I (Bb _) (Kv.ko _)) (Lq I (AP (Rdr.c (⟨t,k,1,0,0,false,false,ms0,false,kv0 16,false⟩:Rdr)) I I (XR t k)) (l_e I (AT I I I I (λbw=>Ce (Rdr.c (⟨t,k,1,0,0,false,false,ms0,false,kv0 16,false⟩:Rdr)) I (Ak I (Ag (AM (Av (Ao I I (λ_ h=>⟨bw,rfl,T0,h⟩)))))))))))))))))
theorem X0 (t:Int) (m:Ms):Con prog 128 [.int .i64 t,.agg m.c.toArray] Tr [] (λbw:Nat=>ptV bw) Tr (λbw=>[WRE bw ⟨t,m,0,false,.pointer none,0⟩]):=by
 intro w hE hH
 refine E0 func128 I hH ?_
 exact Cs I (l_e I (AT I I I I (λbm=>Ce m.c I (Ak I (Cs I (Lm I (Lq I (Cq (m.c) Cm Bl 0 I (Br _) (Ms.ko _)) (Lq I (AP (Wr.c ⟨t,m,0,false,.pointer none,0⟩) I I (XQ t m)) (l_e I (AT I I I I (λbw=>Ce (Wr.c ⟨t,m,0,false,.pointer none,0⟩) I (Ak I (Ag (AM (Av (Ao I I (λ_ h=>⟨bw,rfl,T0,h⟩)))))))))))))))))
def BH (o:Opn):Bool:=!decide (o.key.size<=8)||(decide (o.kind=1)&&!decide (o.val.size<=16))
def rd0 (t:Int) (k:Kv 8):Rdr:=⟨t,k,1,0,0,false,false,ms0,false,kv0 16,false⟩
def bgR (t:Int) (nx:Nat) (o:Opn):Nat×List Evt×(Nat->List Value×List Ent) :=
 if BH o=true then (nx+1,[(⟨t,(nx:Int),false,BC⟩:Evt),(⟨t,(nx:Int),true,(⟨2,false,kv0 16⟩:Ans)⟩:Evt)],λ_=>([.pointer none,.pointer none],[]))
 else if o.kind=4 then (nx,[(⟨t,(nx:Int),false,BC⟩:Evt)],λb=>([ptV b,.pointer none],[RDE b (rd0 t (kOf o))]))
 else (nx,[(⟨t,(nx:Int),false,BC⟩:Evt)],λb=>([.pointer none,ptV b],[WRE b ⟨t,mOf o,0,false,.pointer none,0⟩]))
theorem TA {o:Opn} (h:o.kind=2):mOf o=m0 o:=Ms.ext' rfl rfl rfl (by show (if o.kind=1 then vOf o else kv0 16)=kv0 16;rw[lz (by rw[h];decide)]) (by show (if o.kind=3 then o.by' else 0)=0;rw[lz (by rw[h];decide)])
def mZ (o:Opn):Ms:=⟨o.kind,0,kv0 8,kv0 16,0,o.wk,by decide,by decide⟩
theorem kd3 (o:Opn) (h:o.kind=1\/o.kind=2\/o.kind=3\/o.kind=4):o.kind=1\/o.kind=3\/(o.kind≠1/\o.kind≠3):=by omega
theorem K2 {nx:Nat} {o:Opn} (h:BH o):bgR t nx o=(nx+1,[(⟨t,(nx:Int),false,BC⟩:Evt),(⟨t,(nx:Int),true,(⟨2,false,kv0 16⟩:Ans)⟩:Evt)],λ_=>([.pointer none,.pointer none],[])):=by unfold bgR;rw[lu h]
theorem X1 {nx:Nat} {o:Opn} (h:BH o=false) (hk:o.kind=4):bgR t nx o=(nx,[(⟨t,(nx:Int),false,BC⟩:Evt)],λb=>([ptV b,.pointer none],[RDE b (rd0 t (kOf o))])):=by unfold bgR;rw[lz (by rw[h];decide),lu hk]
theorem bO {nx:Nat} {o:Opn} (h:BH o=false) (hk:o.kind=1):bgR t nx o=(nx,[(⟨t,(nx:Int),false,BC⟩:Evt)],λb=>([.pointer none,ptV b],[WRE b ⟨t,mOf o,0,false,.pointer none,0⟩])):=by unfold bgR;rw[lz (by rw[h];decide),lz (by rw[hk];decide)]
theorem bP {nx:Nat} {o:Opn} (h:BH o=false) (hk:o.kind=2):bgR t nx o=(nx,[(⟨t,(nx:Int),false,BC⟩:Evt)],λb=>([.pointer none,ptV b],[WRE b ⟨t,mOf o,0,false,.pointer none,0⟩])):=by unfold bgR;rw[lz (by rw[h];decide),lz (by rw[hk];decide)]
theorem bQ {nx:Nat} {o:Opn} (h:BH o=false) (hk:o.kind=3):bgR t nx o=(nx,[(⟨t,(nx:Int),false,BC⟩:Evt)],λb=>([.pointer none,ptV b],[WRE b ⟨t,mOf o,0,false,.pointer none,0⟩])):=by unfold bgR;rw[lz (by rw[h];decide),lz (by rw[hk];decide)]
end Go.Proofs.YtloldofjddbjoaaGreat
