/- Part 5 of the proof. No condition. -/
import Derived.Test.YtloldofjddbjoaaGreatT4
set_option linter.unusedVariables false
set_option linter.unusedSimpArgs false
set_option maxHeartbeats 8000000
set_option maxRecDepth 100000
namespace Go.Proofs.YtloldofjddbjoaaGreat
open Go.Sep Go.RowKit Tryz
variable {x:HQ} {n B i j nb nf b off:Nat} {α:Type} {va:Value} {t T:TypeId}
theorem PZ (h:x.Ok B) {t:Int} (ht:tkB t=true) {n:Nat} (hn1:1<=n) (hn2:n<=2) (hcl:n<=x.q.M.claims t) (hls:n<=x.s.left) (hal:∀j,j<n->∃k,(x.s.al j).2.fr=some k):Con prog 208 [ptV x.bh,.int .i64 t,.int .i64 (n:Int)] (fun _=>True) (x.H) (fun y:Value×HQ=>.tuple #[y.1,.bool true]) (fun y=>y.2.bh=x.bh/\y.2.Ok B/\y.2.hm={x.hm with s:=(x.s.al n).2}) (fun y=>Az y.1 3 (AG .i64) (nI2 (x.s.al n).1)::y.2.H):=by
 intro w hE hH
 refine Ey func208 I hH ?_
 refine Cs I (Las I (Ak I (Ag (Cs I (Lm I (l_e I (E1 (Vv t) I call195 Tt (fun _ _=>Lq I (Qt I) (Nk (Sb 13 false I (by rw[ht];rfl) (Ab I (Ae (Ks (Cs I (Lm I (Lq I (Ql I) (Lm I (Sb 16 false I (by first|decide|(simp only[ia,im];omega)) (Lm I (Lq I (BS I I I) (Lq I (Qz I) (Lm I (Sb 20 false I (by first|decide|(simp only[ia,im];omega)) (Lm I (Lc I (Lfa U91 I Z86 I (Lo G86 0 I (Lm I (l_e I (Ee [] (Ro h t) I call262 Tt (fun _ _=>Pw (St _ _ (HQ.H (x))) ?_)))))))))))))))))))))))))))))))
 refine Lm I (Lq I (Ql I) (Lq I (Qz I) (Lm I (Sb 30 false I (by first|decide|(simp only[ia,im];omega)) (Lm I (Lc I (Lfa U91 I Z87 I (Lo isAgg87 0 I (l_e I (Ee [] (Vu h) I call35 Tt (fun _ _=>Pw (St _ _ (HQ.H (x))) ?_)))))))))))
 refine Lm I (Lq I (Ql I) (Lq I (Qz I) (Nk (Sb 38 false I (by first|decide|(simp only[ia,im];omega)) (Ab I (Ae (Kt (Cs I (Ak I (Ag (Cs I (Lm I (Lm I (Nk (row0 3 (AG .i64) none (Al ?_))))))))))))))))
 refine CN (fun (i:Nat) (v:Value)=>[(0,ptV x.bh),(8,v),(45,.int .i64 (n:Int)),(46,.int .i64 (i:Int))]) (fun (i:Nat) (v:Value)=>St w (dom x.H) (Az v 3 (AG .i64) (nI2 (x.s.al i).1)::HQ.H (x.setS (x.s.al i).2))) (fun (i:Nat) (v:Value)=>i<=n) (fun (i:Nat) (v:Value)=>n-i) (0) (Cg) (gb _) (Si I) Ih (fun i v hi=>Ag ?_)
 have hso:=Vx h.s i
 have hxa:HQ.Ok (x.setS (x.s.al i).2) B:=h.setS hso
 have hll:=Vy x.s i
 have hnl:(nI2 (x.s.al i).1).length=(x.s.al i).1.length:=gS ..
 refine Cr I (Lq I (Ql I) (Ns ?_))
 refine CB 47 I (fun h1=>?_) (fun h1=>?_)
 · obtain⟨k,hk⟩:=hal i (by omega)
   have hsn:=Ya hk
   have hkl:=dt hk
   refine Ai I (Ae (Ks (Al (Cs I (Lm I (Lc I (Lfa U91 I Z87 I (Lo isAgg87 1 I (l_e I (Ee [_] (Rq (x:=(x.setS (x.s.al i).2)) hso hk) I call103 Tt (fun _ _=>Pw (St _ _ (_::HQ.H (((x.setS (x.s.al i).2).setS ((x.s.al i).2.alloc k))))) ?_)))))))))))
   refine Lm I (Lq I (Qx I) (Lq I (Qx I) (Las I (Ak I (Cs I (Lm I (Lm I (Lq I (AN (nvL.c) I I (fun w=>by kernel_rfl)) (l_e I ?_)))))))))
   refine Ee [_] (VA (x:=((x.setS (x.s.al i).2).setS ((x.s.al i).2.alloc k))) (hso.alloc k) (k:=k) (by show ((x.s.al i).2.us.set k true)[k]?=some true;exact jV hkl.1) (bk:=Bk.zero) (by show ((x.s.al i).2.bl.set k Bk.zero)[k]?=some Bk.zero;exact jV (by rw[hso.len];exact hkl.1))) I call90 (fun _ _=>trivial) ?_
   intro _ _
   refine Pw (St _ _ (_::HQ.H ((((x.setS (x.s.al i).2).setS ((x.s.al i).2.alloc k)).setS (((x.s.al i).2.alloc k).put k bkL))))) ?_
   refine Nk (Cr I (Lm I (Lm I (l_e I (Ax (sz:=1) [.tmp 61] I I I I I U22 Z3 I zeroValue3 I (fun b1=>AM (l_e I (Ap U22 U22 Ez I (fun _ h=>AW (h.at 1 I) (AG .i64) [(k:Int)] I I) (by simp only[fL,fv,jn];omega) (fun v2=>Bo (show _=nI2 (x.s.al (i+1)).1 from by rw[hsn];simp[nI2]) (AM (Av (Las I (AB (Aw (Kt (Cr I (Lq I (Qi I (by omega)) (Lm I (AB ?_)))))))))))))))))))
   exact AD ((i+1,v2)) (by dsimp only;omega) (by dsimp only;omega) (Si I) (fun _ h=>by dsimp only;rw[hsn] at *;exact h)
 · have hin:i=n:=by omega
   refine Ab I (AO (Ac (Ac (Ar (Kt (Cs I (Lm I (Las I (Ak I (Af (Be (rs:=[.tmp 6,.tmp 7]) I I ?_)))))))))))
   exact fun _ hh=>⟨(v,(x.setS (x.s.al i).2)),rfl,⟨rfl,hxa,by rw[hin];rfl⟩,by rw[hin] at hh;rw[hin];exact hh⟩
theorem VB (y:Lt.Wt) (b:Nat) (t:Int):Con prog 131 [.agg (Lt.encW.f y).toArray,.pointer (some ⟨b,0,none⟩)] (fun _=>True) [Ad b 3 [.int .i64 t]] (fun _:Unit=>.bool (decide (y.1=t))) (fun _=>True) (fun _=>[Ad b 3 [.int .i64 t]]):=by
 intro w hE hH
 refine enter (n:=8) (vs:=[.agg (Lt.encW.f y).toArray,.pointer (some ⟨b,0,none⟩)]) (St w [b] [Ad b 3 [.int .i64 t]]) func131 I I I (St.init hH) ?_
 refine Cs I (l_e I (AQ I I I I (fun b1=>Ak I (Cs I (Lfa Sa I Z3 I (Lo G3 0 I (Lo G3 1 I (Lq I (Qe I) (Ak I (Af (An I I ?_)))))))))))
 exact fun _ h=>⟨(),rfl,trivial,h.drop⟩
theorem OC (l:List Lt.Wt) (b:Nat) (t:Int) (hn:l.length<=65536):Con prog 188 [va,.func (.func 131) #[] #[.pointer (some ⟨b,0,none⟩)]] (fun _=>True) [Az va 241 Lt.encW l,Ad b 3 [.int .i64 t]] (fun z:Int=>.int .i64 z) (fun z=>0<=z↔∃y∈l,y.1=t) (fun _=>[Az va 241 Lt.encW l,Ad b 3 [.int .i64 t]]):=by
 intro w hE hH
 refine Ey func188 I hH ?_
 refine Cs I (Ak I (Ag (Cs I (Lm I (Lq I (AL I D5 I (Hrd 0 I)) (Lm I (Nk (Al ?_))))))))
 refine Bc (fun (k:Nat)=>[(0,va),(1,.func (.func 131) #[] #[.pointer (some ⟨b,0,none⟩)]),(7,.int .i64 (l.length:Int)),(8,.int .i64 (k:Int))]) (fun (k:Nat)=>St w (dom [Az va 241 Lt.encW l,Ad b 3 [.int .i64 t]]) [Az va 241 Lt.encW l,Ad b 3 [.int .i64 t]]) (fun (k:Nat)=>k<=l.length/\∀z∈l.take k,¬z.1=t) (fun (k:Nat)=>l.length-k) (0) ⟨gb _,by simp⟩ (Si I) Ih (fun k hp=>Ag ?_)
 obtain⟨hk,hx⟩:=hp
 refine Cr I (Lq I (Ql I) (Ns ?_))
 refine CB 9 I (fun hlt=>?_) (fun hlt=>?_)
 · obtain⟨y,hy⟩:∃y,l[k]?=some y:=⟨_,fD (by omega)⟩
   refine Ai I (Ae (Ks (Al (Cs I (Lm I (Ak I (Cs I (Lm I (Lm I (Lm I (Lq I (As k I D5 Gz I (Hrd 0 I) I I (by omega)) (Lq I (AU k I isAgg241 Gz I I (Hrd 0 I) hy) (AM (l_e I (Fx (β:=Unit) (X':=fun _=>St w _ [Ad b 3 [.int .i64 t],Az va 241 Lt.encW l]) (v:=fun _=>.bool (decide (y.1=t))) (p:=fun _=>True) I I I I call131 I (fun w2 h=>Con.frame (F:=[Az va 241 Lt.encW l]) (VB y b t) h trivial) (fun _ _=>Nk ?_))))))))))))))))
   refine CB 16 I (fun he=>?_) (fun he=>?_)
   · refine Ai I (Cs I (Lm I (Ak I (Af (Am (Aa (Aa (Am (Aa (AM (An I I ?_)))))))))))
     exact fun _ h=>⟨(k:Int),rfl,⟨fun _=>⟨y,hY hy,he⟩,fun _=>Int.natCast_nonneg k⟩,h⟩
   · refine Ab I (Ae (Aw (Kt (Cr I (Lq I (Qi I (by omega)) (Lm I (AB (AM ?_))))))))
     exact AD (k+1) (by omega) ⟨by omega,take_not hx hy he⟩ (Si I) (fun _ h=>h)
 · refine Ab I (AO (Ac (Ac (Ar (Kt (Cs I (Ak I (Af (An I I ?_)))))))))
   exact fun _ h=>⟨-1,rfl,⟨fun h0=>absurd h0 (by decide),fun⟨z,hz,e⟩=>absurd e (by rw[fZ (by omega)] at hx;exact hx z hz)⟩,h⟩
theorem P0 (l:List Lt.Wt) (b:Nat) (t:Int) (hn:l.length<=65536):Con prog 129 [va,.func (.func 131) #[] #[.pointer (some ⟨b,0,none⟩)]] (fun _=>True) [Az va 241 Lt.encW l,Ad b 3 [.int .i64 t]] (fun _:Unit=>.bool (decide (t∈l.map Prod.fst))) (fun _=>True) (fun _=>[Az va 241 Lt.encW l,Ad b 3 [.int .i64 t]]):=by
 intro w hE hH
 refine Ey func129 I hH ?_
 refine Cs I (Ak I (Cs I (Lm I (Lm I (l_e I (Gn (OC l b t hn) I I I call188 I Tt (fun z hz=>Lq I (Qg I) (Ak I (Af (An I I ?_))))))))))
 exact fun _ h=>⟨(),congrArg (fun z=>Ending.returned (Value.bool z)) (by rw[jF,hz];simp[gj]),trivial,h⟩
theorem VC {l:LC} (h0:x.lt[i]?=some l) {t:Int} (hc:t∈l.m.q.map Prod.fst):x.hm.may t=false:=by
 have:x.hm.la.any (fun l=>decide (t∈l.q.map Prod.fst))=true:=by
  rw[iB]
  exact⟨l.m,kk (hY h0),jq hc⟩
 unfold Hm.may;rw[this];rfl
theorem Yd {t:Int} (h:∀z∈x.lt,¬t∈z.m.q.map Prod.fst):x.hm.may t=x.q.M.may t:=by
 have:x.hm.la.any (fun l=>decide (t∈l.q.map Prod.fst))=false:=by
  rw[List.any_eq_false]
  intro l hl
  obtain⟨z,hz,rfl⟩:=gj.1 (show l∈x.lt.map LC.m from hl)
  rw[jo (h z hz)];decide
 unfold Hm.may;rw[this];rfl
theorem GF (h:x.Ok B) (t:Int):Con prog 82 [ptV x.bh,.int .i64 t] (fun _=>True) (x.H) (fun _:Unit=>.bool (x.hm.may t)) (fun _=>True) (fun _=>x.H):=by
 intro w hE hH
 refine Ey func82 I hH ?_
 refine Ag ?_
 have hll:(x.lt.map LC.b).length<=64:=by rw[gS,h.ll];exact h.q.ok.n64
 refine Cr I (l_e I (AQ I I I I (fun bt=>Ak I (Ag (Cs I (Lm I (Lc I (Lfa U91 I Z88 I (Lo isAgg88 1 I (Lq I (AL I U88 I (Hrd 2 I)) (Lm I (Nk (Al ?_)))))))))))))
 refine Bc (fun (k:Nat)=>[(0,ptV x.bh),(3,.pointer (some ⟨bt,0,none⟩)),(10,x.vL),(11,.int .i64 ((x.lt.map LC.b).length:Int)),(12,.int .i64 (k:Int))]) (fun (k:Nat)=>St w (dom x.H) (Ad bt 3 [.int .i64 t]::HQ.H x)) (fun (k:Nat)=>k<=(x.lt.map LC.b).length/\∀z∈x.lt.take k,¬t∈z.m.q.map Prod.fst) (fun (k:Nat)=>(x.lt.map LC.b).length-k) (0) ⟨gb _,by simp⟩ (Si I) Ih (fun k hp=>Ag ?_)
 obtain⟨hk,hx⟩:=hp
 refine Cr I (Lq I (Ql I) (Ns ?_))
 refine CB 13 I (fun hlt=>?_) (fun hlt=>?_)
 · obtain⟨l,h0⟩:∃l,x.lt[k]?=some l:=⟨_,fD (by rw[gS] at hlt;omega)⟩
   have hy:(x.lt.map LC.b)[k]?=some l.b:=by rw[gm,h0];rfl
   have hql:=(h.l l (hY h0)).lens
   have hb9:=h.b9
   refine Ai I (Ae (Ks (Al (Cs I (Lq I (As k I U88 sizeOf203 I (Hrd 2 I) I I (by omega)) (Lq I (AI k 0 I isAgg203 I I (Hrd 2 I) hy I) (Ak I (Cs I (Lm I (l_e I (Ee [_] (X9 h h0) I call130 Tt (fun vq _=>Pw (St _ _ (_::_::HQ.H (x))) ?_))))))))))))
   refine Lq I (DD (fn:=.func 0) (us:=#[.pointer (some ⟨bt,0,none⟩)]) 131 I (vs:=#[]) (fun a k=>by simp) (fun a k=>by simp[k.eval (x:=.tmp 3) rfl])) (AM (l_e I (Gn (P0 l.m.q bt t (by omega)) I I I call129 I Tt (fun _ _=>Nk ?_))))
   refine CB 19 I (fun hc=>?_) (fun hc=>?_)
   · refine Ai I (Cs I (Ak I (Af (Am (Aa (Aa (Am (Aa (An I I ?_)))))))))
     exact fun _ hh=>⟨(),congrArg (fun z=>Ending.returned (Value.bool z)) (VC h0 hc).symm,trivial,hh.drop.drop⟩
   · refine Ab I (Ae (Aw (Kt (Cr I (Lq I (Qi I (by omega)) (Lm I (AB (Av ?_))))))))
     exact AD (k+1) (by omega) ⟨by omega,take_not hx h0 hc⟩ (Si I) (fun _ h=>h)
 · have hnq:=Yd (t:=t) (fun l hl=>hx l (by rw[gS] at hlt hk;rw[fZ (by omega)];exact hl))
   refine Ab I (AO (Ac (Ac (Ar (Ks (Do8 (rg 7) 1944 (fun w2=>(Ad (HQ.bh (x)) 91 (HQ.cells (x))).at w2/\(Ad bt 3 ([.int .i64 t])).at w2) I St.drawn (H2 1 0 I) (Dm I (Dc I (Dfa U91 I Z86 I (Dq I (Ao I G86 I (fun _ h=>h.1) I) (Dq I (Ao I G3 I (fun _ h=>h.2) I) (d_t I (Ee [_] (dp h t) I call132 Tt (fun _ _=>Pw (St _ _ (_::HQ.H (x))) ?_))))))))))))))
   refine d_t I (e_q I I (AE I I) (AK (Kt (Af (An I I ?_)))))
   exact fun _ hh=>⟨(),congrArg (fun z=>Ending.returned (Value.bool z)) hnq.symm,trivial,hh.drop⟩
theorem VD (p:List Ent) (lts:List LC) (l:LC) (T:List Ent):(p++(l.H++(LTs lts++T))).Perm (p++(LTs (lts++[l])++T)):=by
 have e:LTs (lts++[l])=LTs lts++l.H:=by unfold LTs;rw[List.flatMap_append];simp
 rw[e,gK]
 exact (kl l.H (LTs lts) T).append_left p
def st0 (n:Nat):Sto:=⟨List.replicate n Bk.zero,List.replicate n false⟩
def st1 (n:Nat):Sto:=((st0 n).alloc 0).put 0 bkL
theorem aJ (h:1<=n):(st0 n).fr=some 0:=by
 refine C2 (y:=false) ?_ I (fun z hz=>by simp at hz)
 show (List.replicate n false)[0]?=_
 rw[hM,fO (by omega)]
theorem aK (h:1<=n) (h2:n<=256):(st0 n).Ok:=⟨by simp[st0],by simpa [st0] using h,by simpa [st0] using h2⟩
theorem Ye (h:1<=n) (h2:n<=256):((st0 n).alloc 0).Ok:=⟨by simp[st0,Sto.alloc],by simpa [st0,Sto.alloc] using h,by simpa [st0,Sto.alloc] using h2⟩
theorem aL (h:1<=n) (h2:n<=256):(st1 n).Ok:=⟨by simp[st1,st0,Sto.alloc,Sto.put],by simpa [st1,st0,Sto.alloc,Sto.put] using h,by simpa [st1,st0,Sto.alloc,Sto.put] using h2⟩
theorem Yf (h:1<=n):((st0 n).alloc 0).us[0]?=some true:=by
 show ((List.replicate n false).set 0 true)[0]?=_
 rw[jV (by rw[jB];omega)]
theorem Yg (h:1<=n):((st0 n).alloc 0).bl[0]?=some Bk.zero:=by
 show ((List.replicate n Bk.zero).set 0 Bk.zero)[0]?=_
 rw[jV (by rw[jB];omega)]
def MH (nb nf:Nat):Hm:=⟨mo0 nf,st1 nb,List.replicate nf Lt.newL,[]⟩
theorem Yh {bh bc bs bR:Nat} {vL vB vU:Value} {lts:List LC} {q:Q} (h1:1<=nb) (h2:nb<=256) (hl:lts.length=nf) (hn:∀l∈lts,l.m=Lt.newL) (hq:q.Ok 0) (hm:q.M=mo0 nf):(⟨bh,bc,bs,bR,vL,vB,vU,[],st1 nb,lts,q⟩:HQ).Ok 0/\(⟨bh,bc,bs,bR,vL,vB,vU,[],st1 nb,lts,q⟩:HQ).hm=MH nb nf:=by
 refine⟨⟨hq,aL h1 h2,fun l hm=>by rw[hn l hm];exact Lt.new_ok,?_,iO⟩,?_⟩
 · show lts.length=q.M.fr.length
   rw[hm,hl];exact (jB ..).symm
 · show (⟨q.M,st1 nb,lts.map LC.m,[]⟩:Hm)=_
   rw[hm,<-hl]
   have:lts.map LC.m=List.replicate lts.length Lt.newL:=List.eq_replicate_iff.2 ⟨by simp,fun b hb=>by obtain⟨l,h,rfl⟩:=gj.1 hb;exact hn l h⟩
   rw[this];rfl
theorem dv (n:Nat) (h1n:1<=n) (hn:n<=64):Con prog 101 [.int .i64 (n:Int)] (fun _=>True) [] (fun r:Nat×Q=>.tuple #[ptV r.1,.int .i64 0]) (fun r=>r.2.M=mo0 n/\r.2.Ok 0) (fun r=>r.2.H r.1) :=
 Con.pack [] (new_spec n h1n hn) (jr _) (fun _ _ _=>trivial) (fun r=>(r.1,(⟨r.2,mo0 n,[]⟩:Q))) (fun r hp=>⟨rfl,⟨rfl,⟨hp.1,Z8 h1n hn,hp.2 _⟩⟩,[],Oz _⟩)
theorem eB {nb nf:Nat} (h1:1<=nb) (h2:nb<=256) (h5:5<=nf) (h6:nf<=64):Con prog 50 [.int .i64 (nb:Int),.int .i64 (nf:Int)] (fun _=>True) [] (fun y:HQ=>.tuple #[ptV y.bh,.int .i64 0]) (fun y=>y.Ok 0/\y.hm=MH nb nf) (fun y=>y.H):=by
 intro w hE hH
 refine E0 func50 I hH ?_
 refine Cs I (Las I (Ak I (Cs I (Lm I (l_e I (Jj [] (HA:=[]) (Vf h1 h2) I I I call100 I Tt ?_))))))
 rintro⟨bs,vB,vU⟩ _
 refine Pw (St _ _ (SE bs vB vU (st0 nb))) ?_
 refine Lm I (Lq I (Qx I) (Lq I (Qx I) (Las I (Ak I (Cs I (Lm I (l_e I (Jj [_,_,_] (HA:=[]) (dv nf (by omega) h6) I I I call101 I Tt ?_))))))))
 rintro⟨bc,q⟩ ⟨hm,hk⟩
 dsimp only at hm hk
 refine Pw (St _ _ (_::_::_::Q.H bc q)) ?_
 refine Lm I (Lq I (Qx I) (Lq I (Qx I) (Las I (Ak I (Ag (Cs I (Lm I (Lq I (Qn I) (Lm I (Sb 25 false I (I) (Lm I (Lq I (Qn I) (Lq I (Qz I) (Nk (Sb 28 false I (I) (Ab I (Ae (Kt (Cs I (Lm I (Lm I (l_e I (G2 kI kI I I I (fun bR=>Lq I (AN ([ptV bc,ptV bs,Cg,.map (some bR)]) I I (fun w=>by kernel_rfl)) (l_e I (AQ I I I I (fun bh=>Ce [ptV bc,ptV bs,Cg,.map (some bR)] I (Ak I (Ag (Cs I (Lm I (Lm I (Nk (Al (row0 203 I3 none (Pm [1] I ?_))))))))))))))))))))))))))))))))))))
 refine E3 (fun (k:Nat) (v:Value) (lts:List LC)=>[(6,ptV bs),(8,ptV bc),(10,ptV bh),(34,.int .i64 (nf:Int)),(35,.int .i64 (k:Int))]) (fun (k:Nat) (v:Value) (lts:List LC)=>St w [] (Ad bh 91 [ptV bc,ptV bs,v,.map (some bR)]::Az v 203 I3 (lts.map LC.b)::BH bR kI kI []::Ad bs 161 [vB,vU]::Az vB 279 Bk.enc (st0 nb).bl::Az vU 4 Fb (st0 nb).us::(LTs lts++Q.H bc q))) (fun (k:Nat) (v:Value) (lts:List LC)=>k<=nf/\lts.length=k/\∀l∈lts,l.m=Lt.newL) (fun (k:Nat) (v:Value) (lts:List LC)=>nf-k) (0) (Cg) ([]) ⟨gb _,rfl,by simp⟩ (Si I) Ih (fun k v lts hp=>Ag ?_)
 obtain⟨hk1,hk2,hk3⟩:=hp
 have hkl:(lts.map LC.b).length=lts.length:=gS ..
 refine Cr I (Lq I (Ql I) (Ns ?_))
 refine CB 36 I (fun hlt=>?_) (fun hlt=>?_)
 · refine Ai I (Ae (Ks (Al (Dn (rg 11) 173745 (fun w2=>(Ad bh 91 [ptV bc,ptV bs,v,.map (some bR)]).at w2) I St.drawn (Hat 0 I) (Dm I (Dm I (Dc I (Dfa U91 I Z88 I (Dq I (Ao I isAgg88 I Ih I) (d_e I (R5 Lt.new_spec I I I call102 I Tt (fun bl _=>Aj (Hat 3 I) (d_e I (Ax (sz:=1) [.tmp 42] I I I I I U88 sizeOf203 I zeroValue203 I (fun b2=>Aj (Hat 4 I) (Ex (d_e I (Ap U88 U88 Xu I (fun _ h=>AW (h.at 1 I) I3 [bl] I I) (by simp only[fL,fv,jn];omega) (fun v2=>Bo (show _=(lts++[(⟨bl,Cg,Cg,Lt.newL⟩:LC)]).map LC.b by rw[gL];rfl) (AM (Av (Aj (Hat 4 I) (d_t I (e_q I I (Bt I I) (d_t I (e_q I I (Ba I U91 I Z88 I I) (Pre.fact (fun _ h=>B0 (h.at 0 I)) ?_)))))))))))))))))))))))))))
   rintro⟨av,cv,hv2⟩
   refine CY (d_t I (AF I I Z88 I I (by rw[hv2];rfl) (iy I) (Ce [ptV bc,ptV bs,v2,.map (some bR)] I (AK (Aw (Kt (Cr I (Lq I (Qi I (by omega)) (Lm I (AB (Pm [0,0,3,3,3,3] I ?_)))))))))))
   exact AD ((k+1,v2,lts++[⟨bl,Cg,Cg,Lt.newL⟩])) (by dsimp only;omega) ⟨by dsimp only;omega,by simp[hk2],fun l hl=>(ib.1 hl).elim (hk3 l) (fun e=>by simp at e;rw[e])⟩ (Si I) (fun _ h=>h.perm (VD [_,_,_,_,_,_] lts ⟨bl,Cg,Cg,Lt.newL⟩ _))
 · have hnf:lts.length=nf:=by omega
   refine Pw (St _ _ (HQ.H (⟨bh,bc,bs,bR,v,vB,vU,[],st0 nb,lts,q⟩:HQ))) ?_
   refine Ab I (AO (Ac (Ac (Ar (Kt (Cs I (Lm I (l_e I (Ee [] (Rq (x:=(⟨bh,bc,bs,bR,v,vB,vU,[],st0 nb,lts,q⟩:HQ)) (k:=0) (aK h1 h2) (aJ h1)) I call103 Tt (fun _ _=>Pw (St _ _ (HQ.H (((⟨bh,bc,bs,bR,v,vB,vU,[],st0 nb,lts,q⟩:HQ).setS ((st0 nb).alloc 0))))) ?_))))))))))
   refine Lm I (Lq I (Qx I) (Lq I (Qx I) (Las I (Ak I (Cs I (Lm I (Lm I (Lq I (AN (nvL.c) I I (fun w=>by kernel_rfl)) (l_e I (Ee [] (VA (x:=((⟨bh,bc,bs,bR,v,vB,vU,[],st0 nb,lts,q⟩:HQ).setS ((st0 nb).alloc 0))) (k:=0) (Ye h1 h2) (Yf h1) (Yg h1)) I call90 Tt (fun _ _=>Pw (St _ _ (HQ.H ((((⟨bh,bc,bs,bR,v,vB,vU,[],st0 nb,lts,q⟩:HQ).setS ((st0 nb).alloc 0)).setS (st1 nb))))) ?_)))))))))))
   refine Nk (Cs I (Lm I (Las I (Ak I (Af (Be (rs:=[.tmp 4,.tmp 5]) I I ?_))))))
   exact fun _ h=>⟨⟨bh,bc,bs,bR,v,vB,vU,[],st1 nb,lts,q⟩,rfl,Yh h1 h2 hnf hk3 hk hm,h⟩
structure Rdr where
 t:Int
 k:Kv 8
 at':Int
 blk:Nat
 par:Nat
 pin:Bool
 abv:Bool
 m:Ms
 any:Bool
 v:Kv 16
 f:Bool
theorem Rr {c p q r:List α} (h:c=p++(q++r)) (hp:p.length=i) (hq:q.length=n):(c.drop i).take n=q:=by
 subst h;subst hp;subst hq
 rw[List.drop_left' rfl];exact List.take_left' rfl
theorem P1 {c p q r:List α} {v:α} (h:c=p++(q++r)) (hp:p.length=i) (hv:q[j]?=some v):c[i+j]?=some v:=by
 subst h;subst hp
 rw[fP (by omega),ko,fM (gl.1 hv).1];exact hv
theorem P2 {c p q r:List α} {v:α} (h:c=p++(q++r)) (hp:p.length=i) (hj:j<q.length):c.set (i+j) v=p++(q.set j v++r):=by
 subst h;subst hp
 rw[iq _ _ (by omega),ko,iX _ _ hj]
theorem VE {c p q r s:List Value} (h:c=p++(q++r)) (hp:p.length=i) (hs:s.length=q.length):Sep.splice c i s=p++(s++r):=by
 subst h;exact splice_mid hp hs
namespace Rdr
def hd (w:Rdr):List Value:=.int .i64 w.t::w.k.c
def five (w:Rdr):List Value:=[.int .i64 w.at',.int .i64 (w.blk:Int),.int .i64 (w.par:Int),.bool w.pin,.bool w.abv]
def c (w:Rdr):List Value:=w.hd++(w.five++(w.m.c++([Value.bool w.any]++(w.v.c++[Value.bool w.f]))))
theorem hd_len (w:Rdr):w.hd.length=10:=by simp[hd,Kv.e6]
theorem e6 (w:Rdr):w.c.length=63:=by simp[c,hd,five,Kv.e6,Ms.e6]
theorem e5 (w:Rdr):w.c=w.hd++(w.five++(w.m.c++([Value.bool w.any]++(w.v.c++[Value.bool w.f])))):=rfl
theorem em (w:Rdr):w.c=(w.hd++w.five)++(w.m.c++([Value.bool w.any]++(w.v.c++[Value.bool w.f]))):=by rw[gK];rfl
theorem ea (w:Rdr):w.c=(w.hd++w.five++w.m.c)++([Value.bool w.any]++(w.v.c++[Value.bool w.f])):=by rw[gK,gK];rfl
theorem ev (w:Rdr):w.c=(w.hd++w.five++w.m.c++[Value.bool w.any])++(w.v.c++[Value.bool w.f]):=by rw[gK,gK,gK];rfl
theorem ef (w:Rdr):w.c=(w.hd++w.five++w.m.c++[Value.bool w.any]++w.v.c)++([Value.bool w.f]++[]):=by rw[gK,gK,gK,gK,jc];rfl
theorem lm (w:Rdr):(w.hd++w.five).length=15:=by rw[fL,hd_len];rfl
theorem la (w:Rdr):(w.hd++w.five++w.m.c).length=44:=by rw[fL,lm,Ms.e6]
theorem lv (w:Rdr):(w.hd++w.five++w.m.c++[Value.bool w.any]).length=45:=by rw[fL,la];rfl
theorem lf (w:Rdr):(w.hd++w.five++w.m.c++[Value.bool w.any]++w.v.c).length=62:=by rw[fL,lv,Kv.e6]
theorem k_part (w:Rdr):(w.c.drop 1).take 9=w.k.c:=by
 show ((Value.int .i64 w.t::(w.k.c++_)).drop 1).take 9=_
 exact List.take_left' (Kv.e6 _)
theorem m_part (w:Rdr):(w.c.drop 15).take 29=w.m.c:=Rr w.em w.lm (Ms.e6 _)
theorem v_part (w:Rdr):(w.c.drop 45).take 17=w.v.c:=Rr w.ev w.lv (Kv.e6 _)
theorem f_at (w:Rdr):w.c[62]?=some (.bool w.f):=P1 (j:=0) w.ef w.lf rfl
theorem a_at (w:Rdr):w.c[44]?=some (.bool w.any):=P1 (j:=0) w.ea w.la rfl
theorem mid (w:Rdr) {j:Nat} {v:Value} (h:w.five[j]?=some v):w.c[10+j]?=some v:=P1 w.e5 w.hd_len h
theorem set_mid {w w':Rdr} {v:Value} (hr:(w'.t,w'.k,w'.m,w'.any,w'.v,w'.f)=(w.t,w.k,w.m,w.any,w.v,w.f)) (hj:j<5) (h:w.five.set j v=w'.five):w.c.set (10+j) v=w'.c:=by
 rw[P2 w.e5 w.hd_len (show j<w.five.length from hj),h]
 simp only[Prod.mk.injEq] at hr
 obtain⟨h1,h2,h3,h4,h5,h6⟩:=hr
 unfold c hd;rw[h1,h2,h3,h4,h5,h6]
theorem set_m (w:Rdr) (z:Ms):Sep.splice w.c 15 z.c=({w with m:=z}:Rdr).c:=(VE w.em w.lm (by rw[Ms.e6,Ms.e6])).trans (em {w with m:=z}).symm
theorem set_a (w:Rdr) (b:Bool):w.c.set 44 (.bool b)=({w with any:=b}:Rdr).c:=(P2 (j:=0) w.ea w.la Nat.zero_lt_one).trans (ea {w with any:=b}).symm
theorem set_v (w:Rdr) (z:Kv 16):Sep.splice w.c 45 z.c=({w with v:=z}:Rdr).c:=(VE w.ev w.lv (by rw[Kv.e6,Kv.e6])).trans (ev {w with v:=z}).symm
theorem set_f (w:Rdr) (b:Bool):w.c.set 62 (.bool b)=({w with f:=b}:Rdr).c:=(P2 (j:=0) w.ef w.lf Nat.zero_lt_one).trans (ef {w with f:=b}).symm
end Rdr
abbrev RDE (b:Nat) (w:Rdr):Ent:=Ad b 226 w.c
theorem LF (h:Hm) (t b:Int):(h.pin t b).1=0\/(h.pin t b).1=1\/(h.pin t b).1=2\/(h.pin t b).1=3\/(h.pin t b).1=4:=by
 show (h.M.pin t b).1=0\/_
 unfold Hm.pin Mo.pin
 dsimp only
 split
 · exact .inl I
 · split
   · split
     · exact .inr (.inl I)
     · exact .inr (.inr (.inl I))
   · split
     · exact .inr (.inr (.inr (.inr I)))
     · exact .inr (.inr (.inr (.inl I)))
section
variable {P:Program} {n:Nat} {L:Env} {X:World->Prop} {o:Oper}
theorem I4 {x:Operand} {sz:Nat} (vs:List Value) (ho:o.op=.load t x) (hg:∀w,(isAgg t).run P w=.ok true w) (hz:∀w,(sizeOf t).run P w=.ok sz w) (hx:ev L x=some (.pointer (some ⟨b,off,none⟩))) (hr:∀w,X w->∃cs,(Ad b T cs).at w/\(cs.drop off).take sz=vs)
 (hl:vs.length=sz):QOp P n L X o (.agg vs.toArray):=fun a w kn hX=>by
 obtain⟨cs,h,e⟩:=hr w hX
 exact AP (X:=fun w'=>w'=w) vs ho hg hz hx (fun w' e=>by subst e;exact h) e hl a w kn rfl
end
section
variable {P:Program} {n:Nat} {L:Env} {X:World->Prop} {o:Oper}
theorem VF {x:Operand} {v:Value} (ho:o.op=.load t x) (hg:∀w,(isAgg t).run P w=.ok false w) (hx:ev L x=some (.pointer (some ⟨b,off,none⟩))) (hr:∀w,X w->∃cs,(Ad b T cs).at w/\cs[off]?=some v):QOp P n L X o v:=fun a w kn hX=>by
 obtain⟨cs,h,e⟩:=hr w hX
 exact Ao (X:=fun w'=>w'=w) ho hg hx (fun w' e=>by subst e;exact h) e a w kn rfl
end
def Rdr.gat (w:Rdr) (l:List Ms):Rdr:=if gis Ms.key l w.k=true then {w with m:=if w.any=true then mco (l.getD (FF Ms.key l w.k) ms0) w.m else l.getD (FF Ms.key l w.k) ms0,any:=true} else w
def Rdr.down (w:Rdr) (l:List Ms) (kid:Nat):Rdr:={w.gat l with par:=(w.gat l).blk,blk:=kid,abv:=true,pin:=false,at':=1}
def Rdr.endv (w:Rdr) (l:List En):Kv 16×Bool:=if w.any=true then D6 (AS l w.k).1 (AS l w.k).2 w.m else AS l w.k
def Rdr.fin (w:Rdr) (l:List En):Rdr:={w with v:=(w.endv l).1,f:=(w.endv l).2,at':=6,pin:=false}
def Rdr.pinned (r:Rdr) (e:Int):Rdr:=if e=1\/e=2 then {r with at':=3,pin:=true} else if e=3 then {r with at':=2,pin:=true} else r
theorem dw (h:x.Ok B) (b:Nat) (r:Rdr) (ht:tkB r.t=true) (hmay:x.hm.may r.t=true) (hat:r.at'=1) (hB:B+1<=60000) (hu:x.s.us[r.blk]?=some true) (hk9:r.blk<=256):Con prog 77 [ptV b,ptV x.bh] (fun _=>True) (RDE b r::x.H) (fun y:HQ=>.bool false) (fun y=>y.bh=x.bh/\y.Ok (B+1)/\y.hm=(x.hm.pin r.t r.blk).2) (fun y=>RDE b (r.pinned (x.hm.pin r.t r.blk).1)::y.H):=by
 intro w hE hH
 refine Ey func77 I hH ?_
 refine Cs I (Ak I (Gq 0 I (Ag (Cs I (Lm I (Lc I (Lfa Bw I Z3 I (Lq I (Ao I G3 I (Hat 0 I) (Rdr.mid _ (j:=0) I)) (Lq I (Qe I) (Lm I (Sb 10 false I (by rw[hat];rfl) (Lm I (Lm I (Lc I (Lfa Bw I Z3 I (Lo G3 0 I (l_e I (Ee [_] (GF h r.t) I call82 Tt (fun _ _=>Pw (St _ _ (_::HQ.H (x))) ?_)))))))))))))))))))
 refine Sv' 16 (.bool true) I (by rw[hmay]) (Lq I (Qt I) (Lq I (Qz I) (Nk (Ab I (Ae (Ks (Cs I (Lm I (Lc I (Lfa Bw I Z3 I (Lq I (Ao I G3 I (Hat 0 I) (Rdr.mid _ (j:=0) I)) (Nk (Al (Cs I (Lq I (Qe I) (Ak I (Sb 23 true I (by rw[hat];rfl) (Ai I (Ag (Ag (Gs [(0,O),(1,O),(2,O),(3,O),(4,O),(5,O),(6,O),(7,O),(8,O),(9,W)] [9] [(_,O),(_,O),(_,O),(_,O),(_,O),(_,O),(_,O),(_,O),(_,O),(_,W)] _ (BY (BY (CM (BY (Fz C1))))) I (by kernel_rfl) (by kernel_rfl) I I I (by kernel_rfl) St.drawn Ih (Dm I (Dm I ?_)))))))))))))))))))))))
 refine Dc I (Dfa Bw I Z3 I (Dq I (Ao I G3 I (Hat 0 I) I) (Dm I (Dc I (Dfa Bw I Z3 I (Dq I (Ao I G3 I (Hat 0 I) (Rdr.mid _ (j:=1) I)) ?_))))))
 have hp3:=LF x.hm r.t r.blk
 refine d_t I (Ee [_] (dq h hB r.t hu hk9) I call121 Tt ?_)
 rintro y ⟨hbh,hk,hy⟩
 refine Pw (St _ _ (_::HQ.H (y))) ?_
 refine AK (Kt (Al (Ag (Cs I (Lq I (Qe I) (Ak I ?_))))))
 rcases hp3 with e3|e3|e3|e3|e3
 · refine Sv' 34 (.int .i64 0) I (by rw[e3]) (Sb 35 false I (by first|rfl|(rw[e3];rfl)) (Ab I (Cr I (Lq I (Qe I) (Ak I (Sb 35 false I (by first|rfl|(rw[e3];rfl)) (Ab I (Cs I (Lq I (Qe I) (Ak I (Sb 44 false I (by first|rfl|(rw[e3];rfl)) (Ab I (Ae (Aw (Kt (Fy (Cx (CP (CQ (Ag (Ae (Kt (Cs I ?_)))))))))))))))))))))))
   refine Lm I (Lc I (Lfa Bw I Z3 I (Lq I (Ao I G3 I (Hat 0 I) (Rdr.mid _ (j:=0) I)) (Lq I (Qe I) (Ak I (Af (Cy (An I I ?_))))))))
   exact fun _ hh=>⟨y,by rw[hat];rfl,⟨hbh,hk,hy⟩,by dsimp only;rw[e3];exact hh⟩
 · refine Sv' 34 (.int .i64 1) I (by rw[e3]) (Sb 35 true I (by first|rfl|(rw[e3];rfl)) (Ai I (Ae (Kt (Ai I (Cr I (Lm I (Lm I (Lc I (Lfa Bw I Z3 I (l_e I (AF I I Z3 I I I (by rw[Rdr.e6];decide) (Ce (({r with at':=3}:Rdr)).c (Rdr.set_mid (j:=0) I (by decide) I) (Lc I (Lfa Bw I Z4 I (l_e I (AF I I Z4 I I I (by rw[Rdr.e6];decide) (Ce (({({r with at':=3}:Rdr) with pin:=true}:Rdr)).c (Rdr.set_mid (j:=3) I (by decide) I) (AB (Aw (Kt (Fy (Cx ?_)))))))))))))))))))))))
   refine CP (CQ (Ag (Ae (Kt (Cs I (Lm I (Lc I (Lfa Bw I Z3 I (Lq I (Ao I G3 I (Hat 0 I) (Rdr.mid _ (j:=0) I)) (Lq I (Qe I) (Ak I (Af (Cy (An I I ?_))))))))))))))
   exact fun _ hh=>⟨y,rfl,⟨hbh,hk,hy⟩,by dsimp only;rw[e3];exact hh⟩
 · refine Sv' 34 (.int .i64 2) I (by rw[e3]) (Sb 35 false I (by first|rfl|(rw[e3];rfl)) (Ab I (Cr I (Lq I (Qe I) (Ak I (Sb 35 true I (by first|rfl|(rw[e3];rfl)) (Ai I (Cr I (Lm I (Lm I (Lc I (Lfa Bw I Z3 I (l_e I (AF I I Z3 I I I (by rw[Rdr.e6];decide) (Ce (({r with at':=3}:Rdr)).c (Rdr.set_mid (j:=0) I (by decide) I) (Lc I (Lfa Bw I Z4 I (l_e I (AF I I Z4 I I I (by rw[Rdr.e6];decide) (Ce (({({r with at':=3}:Rdr) with pin:=true}:Rdr)).c (Rdr.set_mid (j:=3) I (by decide) I) (AB (Aw (Kt ?_)))))))))))))))))))))))
   refine Fy (Cx (CP (CQ (Ag (Ae (Kt (Cs I (Lm I (Lc I (Lfa Bw I Z3 I (Lq I (Ao I G3 I (Hat 0 I) (Rdr.mid _ (j:=0) I)) (Lq I (Qe I) (Ak I (Af (Cy (An I I ?_))))))))))))))))
   exact fun _ hh=>⟨y,rfl,⟨hbh,hk,hy⟩,by dsimp only;rw[e3];exact hh⟩
 · refine Sv' 34 (.int .i64 3) I (by rw[e3]) (Sb 35 false I (by first|rfl|(rw[e3];rfl)) (Ab I (Cr I (Lq I (Qe I) (Ak I (Sb 35 false I (by first|rfl|(rw[e3];rfl)) (Ab I (Cs I (Lq I (Qe I) (Ak I (Sb 44 true I (by first|rfl|(rw[e3];rfl)) (Ai I (Cr I (Lm I (Lm I (Lc I (Lfa Bw I Z3 I (l_e I (AF I I Z3 I I I (by rw[Rdr.e6];decide) (Ce (({r with at':=2}:Rdr)).c (Rdr.set_mid (j:=0) I (by decide) I) (Lc I (Lfa Bw I Z4 I (l_e I ?_)))))))))))))))))))))))
   refine AF I I Z4 I I I (by rw[Rdr.e6];decide) (Ce (({({r with at':=2}:Rdr) with pin:=true}:Rdr)).c (Rdr.set_mid (j:=3) I (by decide) I) (AB (Aw (Kt (Fy (Cx (CP (CQ (Ag (Ae (Kt (Cs I (Lm I (Lc I (Lfa Bw I Z3 I (Lq I (Ao I G3 I (Hat 0 I) (Rdr.mid _ (j:=0) I)) (Lq I (Qe I) (Ak I (Af (Cy (Pm [4,4,4] I ?_)))))))))))))))))))))
   refine Pm [3,3,3,3] I (An I I ?_)
   exact fun _ hh=>⟨y,rfl,⟨hbh,hk,hy⟩,by dsimp only;rw[e3];exact hh⟩
 · refine Sv' 34 (.int .i64 4) I (by rw[e3]) (Sb 35 false I (by first|rfl|(rw[e3];rfl)) (Ab I (Cr I (Lq I (Qe I) (Ak I (Sb 35 false I (by first|rfl|(rw[e3];rfl)) (Ab I (Cs I (Lq I (Qe I) (Ak I (Sb 44 false I (by first|rfl|(rw[e3];rfl)) (Ab I (Ae (Aw (Kt (Fy (Cx (CP (CQ (Ag (Ae (Kt (Cs I ?_)))))))))))))))))))))))
   refine Lm I (Lc I (Lfa Bw I Z3 I (Lq I (Ao I G3 I (Hat 0 I) (Rdr.mid _ (j:=0) I)) (Lq I (Qe I) (Ak I (Af (Cy (An I I ?_))))))))
   exact fun _ hh=>⟨y,by rw[hat];rfl,⟨hbh,hk,hy⟩,by dsimp only;rw[e3];exact hh⟩
theorem aM (h:x.Ok B) (b:Nat) (r:Rdr) (ht:tkB r.t=true) (hmay:x.hm.may r.t=true) (hat:r.at'=2) (hu:x.s.us[r.blk]?=some true) (hr:Cn (r.blk:Int) x.rd=some r.t) {bk:Bk} (hb:x.s.bl[r.blk]?=some bk) {nd:Nd} (hd:PW bk.l nd) (hsm:nd.Sm 1000):Con prog 77 [ptV b,ptV x.bh] (fun _=>True) (RDE b r::x.H) (fun y:HQ=>.bool false) (fun y=>y.bh=x.bh/\y.Ok B/\y.hm=x.hm.load r.blk nd) (fun y=>RDE b ({r with at':=3}:Rdr)::y.H):=by
 intro w hE hH
 refine Ey func77 I hH ?_
 refine Cs I (Ak I (Gq 0 I (Ag (Cs I (Lm I (Lc I (Lfa Bw I Z3 I (Lq I (Ao I G3 I (Hat 0 I) (Rdr.mid _ (j:=0) I)) (Lq I (Qe I) (Lm I (Sb 10 false I (by rw[hat];rfl) (Lm I (Lm I (Lc I (Lfa Bw I Z3 I (Lo G3 0 I (l_e I (Ee [_] (GF h r.t) I call82 Tt (fun _ _=>Pw (St _ _ (_::HQ.H (x))) ?_)))))))))))))))))))
 refine Sv' 16 (.bool true) I (by rw[hmay]) (Lq I (Qt I) (Lq I (Qz I) (Nk (Ab I (Ae (Ks (Cs I (Lm I (Lc I (Lfa Bw I Z3 I (Lq I (Ao I G3 I (Hat 0 I) (Rdr.mid _ (j:=0) I)) (Nk (Al (Cs I (Lq I (Qe I) (Ak I (Sb 23 false I (by rw[hat];rfl) (Ab I (Cs I (Lq I (Qe I) (Ak I (Sb 52 true I (by rw[hat];rfl) (Ai I ?_)))))))))))))))))))))))
 refine Ag (Gs [(0,O),(1,O),(2,O),(3,O),(4,O),(5,O),(6,O),(7,O),(8,O),(9,W)] [9] [(_,O),(_,O),(_,O),(_,O),(_,O),(_,O),(_,O),(_,O),(_,O),(_,W)] _ (BY (CM (BY (Fz C1)))) I (by kernel_rfl) (by kernel_rfl) I I I (by kernel_rfl) St.drawn Ih (Dm I (Dm I (Dc I (Dfa Bw I Z3 I (Dq I (Ao I G3 I (Hat 0 I) I) (Dm I (Dc I (Dfa Bw I Z3 I (Dq I (Ao I G3 I (Hat 0 I) (Rdr.mid _ (j:=1) I)) (d_t I (Ee [_] (Zk h hu hr hb hd hsm) I call85 Tt ?_))))))))))))
 rintro⟨y,v,bo⟩ ⟨hbh,hk,hy⟩
 refine Pw (St _ _ (_::HQ.H (y))) ?_
 refine AK (Kt (Cs I (Lm I (Lc I (Lfa Bw I Z3 I (l_e I (AF I I Z3 I I I (by rw[Rdr.e6];decide) (Ce (({r with at':=3}:Rdr)).c (Rdr.set_mid (j:=0) I (by decide) I) (Nk (Fy (Cx (CP (CQ (Ag (Ae (Kt (Cs I (Lm I (Lc I (Lfa Bw I Z3 I (Lq I (Ao I G3 I (Hat 0 I) (Rdr.mid _ (j:=0) I)) (Lq I (Qe I) (Ak I ?_)))))))))))))))))))))))
 refine Af (Cy (An I I ?_))
 exact fun _ hh=>⟨y,rfl,⟨hbh,hk,hy⟩,hh⟩
theorem aN (h:x.Ok B) (b:Nat) (r:Rdr) (ht:tkB r.t=true) (hmay:x.hm.may r.t=true) (hat:r.at'=3) (hB:B+1<=60000) {i:Nat} (hf:x.q.M.frI (r.blk:Int) 2=some i):Con prog 77 [ptV b,ptV x.bh] (fun _=>True) (RDE b r::x.H) (fun y:HQ=>.bool false) (fun y=>y.bh=x.bh/\y.Ok (B+1)/\y.hm=x.hm.take i r.t false) (fun y=>RDE b (if r.abv=true then {r with at':=4} else {r with at':=5})::y.H):=by
 intro w hE hH
 refine Ey func77 I hH ?_
 refine Cs I (Ak I (Gq 0 I (Ag (Cs I (Lm I (Lc I (Lfa Bw I Z3 I (Lq I (Ao I G3 I (Hat 0 I) (Rdr.mid _ (j:=0) I)) (Lq I (Qe I) (Lm I (Sb 10 false I (by rw[hat];rfl) (Lm I (Lm I (Lc I (Lfa Bw I Z3 I (Lo G3 0 I (l_e I (Ee [_] (GF h r.t) I call82 Tt (fun _ _=>Pw (St _ _ (_::HQ.H (x))) ?_)))))))))))))))))))
 refine Sv' 16 (.bool true) I (by rw[hmay]) (Lq I (Qt I) (Lq I (Qz I) (Nk (Ab I (Ae (Ks (Cs I (Lm I (Lc I (Lfa Bw I Z3 I (Lq I (Ao I G3 I (Hat 0 I) (Rdr.mid _ (j:=0) I)) (Nk (Al (Cs I (Lq I (Qe I) (Ak I (Sb 23 false I (by rw[hat];rfl) (Ab I (Cs I (Lq I (Qe I) (Ak I (Sb 52 false I (by rw[hat];rfl) (Ab I ?_)))))))))))))))))))))))
 refine Cs I (Lq I (Qe I) (Ak I (Sb 67 true I (by rw[hat];rfl) (Ai I (Ag (Gs [(0,O),(1,O),(2,O),(3,O),(4,O),(5,O),(6,O),(7,O),(8,O),(9,W)] [9] [(_,O),(_,O),(_,O),(_,O),(_,O),(_,O),(_,O),(_,O),(_,O),(_,W)] _ (BY (CM (BY (Fz C1)))) I (by kernel_rfl) (by kernel_rfl) I I I (by kernel_rfl) St.drawn Ih (Dm I (Dm I (Dc I (Dfa Bw I Z3 I (Dq I (Ao I G3 I (Hat 0 I) I) (Dm I (Dc I (Dfa Bw I Z3 I (Dq I (Ao I G3 I (Hat 0 I) (Rdr.mid _ (j:=1) I)) (d_t I (Ee [_] (xtk h ht hf hB false) I call86 Tt ?_)))))))))))))))))
 rintro⟨y,bo⟩ ⟨hbh,hk,hy⟩
 refine Pw (St _ _ (_::HQ.H (y))) ?_
 refine AK (Ks (Cs I (Lm I (Lc I (Lfa Bw I Z3 I (l_e I (AF I I Z3 I I I (by rw[Rdr.e6];decide) (Ce (({r with at':=5}:Rdr)).c (Rdr.set_mid (j:=0) I (by decide) I) (Nk (Cs I (Lm I (Lc I (Lfa Bw I Z4 I (Lq I (Ao I G4 I (Hat 0 I) (Rdr.mid _ (j:=4) I)) (Nk ?_)))))))))))))))
 refine Pre.caseB 85 I (fun hab=>?_) (fun hab=>?_)
 · refine Ai I (Cr I (Lm I (Lc I (Lfa Bw I Z3 I (l_e I (AF I I Z3 I I I (by rw[Rdr.e6];decide) (Ce (({({r with at':=5}:Rdr) with at':=4}:Rdr)).c (Rdr.set_mid (j:=0) I (by decide) I) (Nk (Fy (Cx (CP (CQ (Ag (Ae (Kt (Cs I (Lm I (Lc I (Lfa Bw I Z3 I (Lq I (Ao I G3 I (Hat 0 I) (Rdr.mid _ (j:=0) I)) (Lq I (Qe I) (Ak I (Af ?_)))))))))))))))))))))))
   refine Cy (An I I ?_)
   exact fun _ hh=>⟨y,rfl,⟨hbh,hk,hy⟩,by dsimp only;rw[fO hab];exact hh⟩
 · refine Ab I (Ae (Kt (Fy (Cx (CP (CQ (Ag (Ae (Kt (Cs I (Lm I (Lc I (Lfa Bw I Z3 I (Lq I (Ao I G3 I (Hat 0 I) (Rdr.mid _ (j:=0) I)) (Lq I (Qe I) (Ak I (Af (Cy (Pm [2,2,2,2,2] I ?_)))))))))))))))))))
   refine Pm [5,5] I (An I I ?_)
   exact fun _ hh=>⟨y,rfl,⟨hbh,hk,hy⟩,by dsimp only;rw[fR (by rw[hab];decide)];exact hh⟩
theorem Yi (h:x.Ok B) (b:Nat) (r:Rdr) (ht:tkB r.t=true) (hmay:x.hm.may r.t=true) (hat:r.at'=4) {i:Nat} (hf:x.q.M.frI (r.par:Int) 2=some i) (hh:DH (x.hm.lat i) r.t=true):Con prog 77 [ptV b,ptV x.bh] (fun _=>True) (RDE b r::x.H) (fun y:HQ=>.bool false) (fun y=>y.bh=x.bh/\y.Ok B/\y.hm=x.hm.leave i r.t r.par) (fun y=>RDE b {r with at':=5,abv:=false}::y.H):=by
 intro w hE hH
 refine Ey func77 I hH ?_
 refine Cs I (Ak I (Gq 0 I (Ag (Cs I (Lm I (Lc I (Lfa Bw I Z3 I (Lq I (Ao I G3 I (Hat 0 I) (Rdr.mid _ (j:=0) I)) (Lq I (Qe I) (Lm I (Sb 10 false I (by rw[hat];rfl) (Lm I (Lm I (Lc I (Lfa Bw I Z3 I (Lo G3 0 I (l_e I (Ee [_] (GF h r.t) I call82 Tt (fun _ _=>Pw (St _ _ (_::HQ.H (x))) ?_)))))))))))))))))))
 refine Sv' 16 (.bool true) I (by rw[hmay]) (Lq I (Qt I) (Lq I (Qz I) (Nk (Ab I (Ae (Ks (Cs I (Lm I (Lc I (Lfa Bw I Z3 I (Lq I (Ao I G3 I (Hat 0 I) (Rdr.mid _ (j:=0) I)) (Nk (Al (Cs I (Lq I (Qe I) (Ak I (Sb 23 false I (by rw[hat];rfl) (Ab I (Cs I (Lq I (Qe I) (Ak I (Sb 52 false I (by rw[hat];rfl) (Ab I ?_)))))))))))))))))))))))
 refine Cs I (Lq I (Qe I) (Ak I (Sb 67 false I (by rw[hat];rfl) (Ab I (Cs I (Lq I (Qe I) (Ak I (Sb 89 true I (by rw[hat];rfl) (Ai I (Ag (Gs [(0,O),(1,O),(2,O),(3,O),(4,O),(5,O),(6,O),(7,O),(8,O),(9,W)] [9] [(_,O),(_,O),(_,O),(_,O),(_,O),(_,O),(_,O),(_,O),(_,O),(_,W)] _ (BY (CM (BY (Fz C1)))) I (by kernel_rfl) (by kernel_rfl) I I I (by kernel_rfl) St.drawn Ih (Dm I (Dm I (Dc I (Dfa Bw I Z3 I (Dq I (Ao I G3 I (Hat 0 I) I) (Dm I (Dc I (Dfa Bw I Z3 I (Dq I (Ao I G3 I (Hat 0 I) (Rdr.mid _ (j:=2) I)) (d_t I (Ee [_] (PY h ht hf hh) I call122 Tt ?_))))))))))))))))))))))
 rintro⟨y,v⟩ ⟨hbh,hk,hy⟩
 refine Pw (St _ _ (_::HQ.H (y))) ?_
 refine AK (Kt (Cs I (Lm I (Lm I (Lc I (Lfa Bw I Z3 I (l_e I (AF I I Z3 I I I (by rw[Rdr.e6];decide) (Ce (({r with at':=5}:Rdr)).c (Rdr.set_mid (j:=0) I (by decide) I) (Lc I (Lfa Bw I Z4 I (l_e I (AF I I Z4 I I I (by rw[Rdr.e6];decide) (Ce (({({r with at':=5}:Rdr) with abv:=false}:Rdr)).c (Rdr.set_mid (j:=4) I (by decide) I) (Nk (Fy (Cx (CP (CQ (Ag (Ae (Kt (Cs I ?_)))))))))))))))))))))))
 refine Lm I (Lc I (Lfa Bw I Z3 I (Lq I (Ao I G3 I (Hat 0 I) (Rdr.mid _ (j:=0) I)) (Lq I (Qe I) (Ak I (Af (Cy (An I I ?_))))))))
 exact fun _ hh=>⟨y,rfl,⟨hbh,hk,hy⟩,hh⟩
end Go.Proofs.YtloldofjddbjoaaGreat
namespace Go.Proofs.YtloldofjddbjoaaGreat
open Go.Sep Go.RowKit Tryz
variable {l:List Ms} {x:HQ} {B:Nat} {es:List En}
theorem VG (l:List Ms) (k:Kv 8):(Di l k).2=gis Ms.key l k:=by
 unfold Di;cases h:gis Ms.key l k<;>simp
theorem VH {k:Kv 8} (h:gis Ms.key l k=true):(Di l k).1=l.getD (FF Ms.key l k) ms0:=by
 unfold Di;rw[fO h]
theorem aP {r:Rdr} (h:gis Ms.key l r.k=false):r.gat l=r:=by unfold Rdr.gat;rw[fR (by rw[h];decide)]
theorem Yj {r:Rdr} (h:gis Ms.key l r.k=true) (ha:r.any=false):r.gat l={r with m:=(Di l r.k).1,any:=true}:=by
 unfold Rdr.gat;rw[fO h,fR (by rw[ha];decide),VH h]
theorem Yk {r:Rdr} (h:gis Ms.key l r.k=true) (ha:r.any=true):r.gat l={r with m:=mco (Di l r.k).1 r.m,any:=true}:=by
 unfold Rdr.gat;rw[fO h,fO ha,VH h]
theorem VI (h:x.Ok B) (b:Nat) (r:Rdr) {i:Nat} (hf:x.q.M.frI (r.blk:Int) 2=some i) (hrm:DV Ms.key (x.q.M.at' i).nd.msgs) {kid:Nat} (hkid:(x.q.M.at' i).nd.kids[FP (x.q.M.at' i).nd.piv r.k]?=some (kid:Int)):Con prog 123 [ptV b,ptV x.bh] (fun _=>True) (RDE b r::x.H) (fun _:Unit=>.tuple #[]) (fun _=>True) (fun _=>RDE b (r.down (x.q.M.at' i).nd.msgs kid)::x.H):=by
 intro w hE hH
 have hi9:=h.latI hf
 obtain⟨l9,hl9⟩:=hi9
 have hsm:((x.q.M.at' i).nd).Sm 1000:=h.q.ok.es _ (by unfold Mo.at';rw[ju];obtain⟨z,hz,_⟩:=C6 (EU hf).1;rw[hz];exact hY hz)
 have hkl:=(gl.1 hkid).1
 refine Ey func123 I hH ?_
 refine Ag ?_
 refine DC (fun (s:N4) (bn:Nat)=>[(0,ptV b),(1,ptV x.bh),(4,.pointer (some ⟨bn,0,none⟩)),(5,.bool true)]) (fun (s:N4) (bn:Nat)=>St w (dom (RDE b r::x.H)) (Ad bn 135 (⟨s,(x.q.M.at' i).nd⟩:NV).c::(Bz (⟨s,(x.q.M.at' i).nd⟩:NV)++(RDE b r::x.H)))) (fun (s:N4) (bn:Nat)=>True) ?_ ?_
 · refine EZ (fun w2=>(RDE b r).at w2/\(Ad x.bh 91 x.cells).at w2) I St.drawn (Aq 0 I (H2 0 1 I) (A0 I I) (Aq 1 I (H2 0 1 I) (Bt I I) (Aq 2 I (H2 0 1 I) (Ba I U91 I Z86 I I) (Aq 3 I (H2 0 1 I) (Ao I G86 I (fun _ h=>h.2) I) (Aq 4 I (H2 0 1 I) (A0 I I) (Aq 5 I (H2 0 1 I) (Bt I I) (Aq 6 I (H2 0 1 I) (Ba I Bw I Z3 I I) (Aq 7 I (H2 0 1 I) (Ao I G3 I (fun _ h=>h.1) (Rdr.mid _ (j:=1) I)) ?_))))))))
   refine BK 8 12 (by kernel_rfl) I I I I ?_ ?_
   · refine Ee [_] (Gd h hf) I call116 Tt (fun s _=>Pw (St _ _ (_::_::_::_::_::HQ.H (x))) ?_)
     refine Aj (H2 0 5 I) (Aq 9 I (H2 0 5 I) (A0 I I) (Aq 10 I (H2 0 5 I) (Qx I) (Aq 11 I (H2 0 5 I) (Qx I) (AH 12 (by kernel_rfl) I I (Au I I I zeroValue135 (fun bn=>Ce nv0.c I (Aj (H2 1 6 I) (AH 13 (by kernel_rfl) I I (Ah I I AR I I I (NV.one _) (by show 0+5<=5;decide) (Ay (show Sep.splice _ 0 ((⟨s,(x.q.M.at' i).nd⟩:NV)).c=((⟨s,(x.q.M.at' i).nd⟩:NV)).c from Sep.e7 I) (Aj (H2 1 6 I) (Aq 14 I (H2 1 6 I) (AE I I) (BW (by kernel_rfl) (Pm [0,1,1,1,1] I ?_))))))))))))))
     exact Bb ((s,bn)) trivial (Si I) (fun _ h=>h)
   · refine Au I I I zeroValue135 (fun bn=>Ce nv0.c I (Aj (H2 1 2 I) (AH 8 (by kernel_rfl) I I (Ee [_,_] (Gd h hf) I call116 Tt (fun s _=>Pw (St _ _ (_::_::_::_::_::_::HQ.H (x))) ?_)))))
     refine Aj (H2 1 6 I) (Aq 9 I (H2 1 6 I) (A0 I I) (Aq 10 I (H2 1 6 I) (Qx I) (Aq 11 I (H2 1 6 I) (Qx I) (AH 13 (by kernel_rfl) I I (Ah I I AR I I I (NV.one _) (by show 0+5<=5;decide) (Ay (show Sep.splice _ 0 ((⟨s,(x.q.M.at' i).nd⟩:NV)).c=((⟨s,(x.q.M.at' i).nd⟩:NV)).c from Sep.e7 I) (Aj (H2 1 6 I) (Aq 14 I (H2 1 6 I) (AE I I) (BW (by kernel_rfl) (Pm [0,1,1,1,1] I ?_))))))))))
     exact Bb ((s,bn)) trivial (Si I) (fun _ h=>h)
 · intro s bn _
   refine Ag (Ag (Do8 (rg 8) 5832 (fun w2=>(RDE b r).at w2/\(Ad x.bh 91 x.cells).at w2/\(Ad bn 135 ((⟨s,(x.q.M.at' i).nd⟩:NV).c)).at w2) I St.drawn (fun _ h=>⟨h.at 5 rfl,h.at 6 rfl,h.at 0 rfl⟩) (Dfa CT I Ni I (Dq I (Ao I isAgg132 I (fun _ h=>h.2.2) I) (Dm I (Dc I (Dfa Bw I Z77 I (Dq I (AP ((Rdr.k r).c) I G77 Z77 I (fun _ h=>h.1) (Rdr.k_part _) (Kv.e6 _)) (d_t I (E1 (Ly (x.q.M.at' i).nd.piv r.k (gF hsm.p (by decide))) I call178 (Hrd 3 I) (fun _ _=>d_t I (e_q I I (AE I I) (AK (Kt (Cs I (Lm I (Lm I (Lm I (Lfa CT I Z22 I (Lo G22 0 I (Lq I (AL I U22 I (Hrd 2 I)) (Lq I (Ql I) (Lq I (Qy I) (Nk (St' 35 I (by show ((FP (x.q.M.at' i).nd.piv r.k:Nat):Int)<(((x.q.M.at' i).nd.kids.length:Nat):Int);omega) (Ai I (Ag (Ag ?_))))))))))))))))))))))))))))
   refine Gp (fun (bm:Nat)=>[(0,ptV b),(1,ptV x.bh),(4,.pointer (some ⟨bn,0,none⟩)),(5,.bool true),(6,.int .i64 ((FP (x.q.M.at' i).nd.piv r.k):Int)),(7,.pointer (some ⟨bm,0,none⟩)),(8,.bool (gis Ms.key (x.q.M.at' i).nd.msgs r.k))]) (fun (bm:Nat)=>St w (dom (RDE b r::x.H)) (Ad bm 154 ((Di (x.q.M.at' i).nd.msgs r.k).1).c::Ad bn 135 (⟨s,(x.q.M.at' i).nd⟩:NV).c::(Bz (⟨s,(x.q.M.at' i).nd⟩:NV)++(RDE b r::x.H)))) (fun (bm:Nat)=>True) ?_ ?_
   · refine EZ (fun w2=>(RDE b r).at w2/\(Ad x.bh 91 x.cells).at w2/\(Ad bn 135 ((⟨s,(x.q.M.at' i).nd⟩:NV).c)).at w2) I St.drawn (Aq 0 I (fun _ h=>⟨h.at 5 rfl,h.at 6 rfl,h.at 0 rfl⟩) (Ba I CT I Hp I I) (Aq 1 I (fun _ h=>⟨h.at 5 rfl,h.at 6 rfl,h.at 0 rfl⟩) (Ao I I7 I (fun _ h=>h.2.2) I) (Aq 2 I (fun _ h=>⟨h.at 5 rfl,h.at 6 rfl,h.at 0 rfl⟩) (A0 I I) (Aq 3 I (fun _ h=>⟨h.at 5 rfl,h.at 6 rfl,h.at 0 rfl⟩) (Bt I I) (Aq 4 I (fun _ h=>⟨h.at 5 rfl,h.at 6 rfl,h.at 0 rfl⟩) (Ba I Bw I Z77 I I) (Aq 5 I (fun _ h=>⟨h.at 5 rfl,h.at 6 rfl,h.at 0 rfl⟩) (AP ((Rdr.k r).c) I G77 Z77 I (fun _ h=>h.1) (Rdr.k_part _) (Kv.e6 _)) ?_))))))
     refine BK 6 10 (by kernel_rfl) I I I I ?_ ?_
     · refine E1 (Kb (x.q.M.at' i).nd.msgs r.k hrm (gF hsm.m (by decide))) I call179 (Hrd 4 I) (fun _ _=>Aj (fun _ h=>⟨h.at 5 rfl,h.at 6 rfl,h.at 0 rfl⟩) (Aq 7 I (fun _ h=>⟨h.at 5 rfl,h.at 6 rfl,h.at 0 rfl⟩) (A0 I I) (Aq 8 I (fun _ h=>⟨h.at 5 rfl,h.at 6 rfl,h.at 0 rfl⟩) (Qx I) (Aq 9 I (fun _ h=>⟨h.at 5 rfl,h.at 6 rfl,h.at 0 rfl⟩) (Qx I) (AH 10 (by kernel_rfl) I I (Au I I I zeroValue154 (fun bm=>Ce ms0.c I (Aj (fun _ h=>⟨h.at 6 rfl,h.at 7 rfl,h.at 1 rfl⟩) (AH 11 (by kernel_rfl) I I (Ah I I Bi I I (Ms.e6 _) (Ms.one _) (by first|decide|(show 0+(Ms.c _).length<=(Ms.c _).length;rw[Ms.e6,Ms.e6];decide)) (Ce ((Di (x.q.M.at' i).nd.msgs r.k).1).c (Sep.e7 (by first|rfl|(show (Ms.c _).length=_;rw[Ms.e6,Ms.e6]))) (Aj (fun _ h=>⟨h.at 6 rfl,h.at 7 rfl,h.at 1 rfl⟩) (Aq 12 I (fun _ h=>⟨h.at 6 rfl,h.at 7 rfl,h.at 1 rfl⟩) (AE I I) (BW (by kernel_rfl) ?_))))))))))))))
       exact Bb (bm) trivial (Sub.cons I (Sub.cons I (Sub.cons I (Sub.cons I (Sub.cons I (Sub.cons I (Sub.consE I (by rw[VG]) Sub.nil))))))) (fun _ h=>h)
     · refine Au I I I zeroValue154 (fun bm=>Ce ms0.c I (Aj (fun _ h=>⟨h.at 6 rfl,h.at 7 rfl,h.at 1 rfl⟩) (AH 6 (by kernel_rfl) I I (E1 (Kb (x.q.M.at' i).nd.msgs r.k hrm (gF hsm.m (by decide))) I call179 (Hrd 5 I) (fun _ _=>Aj (fun _ h=>⟨h.at 6 rfl,h.at 7 rfl,h.at 1 rfl⟩) (Aq 7 I (fun _ h=>⟨h.at 6 rfl,h.at 7 rfl,h.at 1 rfl⟩) (A0 I I) (Aq 8 I (fun _ h=>⟨h.at 6 rfl,h.at 7 rfl,h.at 1 rfl⟩) (Qx I) (Aq 9 I (fun _ h=>⟨h.at 6 rfl,h.at 7 rfl,h.at 1 rfl⟩) (Qx I) (AH 11 (by kernel_rfl) I I (Ah I I Bi I I (Ms.e6 _) (Ms.one _) (by first|decide|(show 0+(Ms.c _).length<=(Ms.c _).length;rw[Ms.e6,Ms.e6];decide)) (Ce ((Di (x.q.M.at' i).nd.msgs r.k).1).c (Sep.e7 (by first|rfl|(show (Ms.c _).length=_;rw[Ms.e6,Ms.e6]))) (Aj (fun _ h=>⟨h.at 6 rfl,h.at 7 rfl,h.at 1 rfl⟩) (Aq 12 I (fun _ h=>⟨h.at 6 rfl,h.at 7 rfl,h.at 1 rfl⟩) (AE I I) (BW (by kernel_rfl) ?_))))))))))))))
       exact Bb (bm) trivial (Sub.cons I (Sub.cons I (Sub.cons I (Sub.cons I (Sub.cons I (Sub.cons I (Sub.consE I (by rw[VG]) Sub.nil))))))) (fun _ h=>h)
   · intro bm _
     refine Cs I (Lm I (Nk ?_))
     refine Gp (fun (_u:Unit)=>[(0,ptV b),(1,ptV x.bh),(4,.pointer (some ⟨bn,0,none⟩)),(5,.bool true),(6,.int .i64 ((FP (x.q.M.at' i).nd.piv r.k):Int))]) (fun (_u:Unit)=>St w (dom (RDE b r::x.H)) (Ad bn 135 (⟨s,(x.q.M.at' i).nd⟩:NV).c::(Bz (⟨s,(x.q.M.at' i).nd⟩:NV)++(RDE b (Rdr.gat r (x.q.M.at' i).nd.msgs)::x.H)))) (fun (_u:Unit)=>True) ?_ ?_
     · refine Pre.caseB 46 I (fun his=>?_) (fun his=>?_)
       · refine Ai I (Ag (Cs I (Lm I (Lc I (Lfa Bw I Z4 I (Lq I (Ao I G4 I (Hat 6 I) (Rdr.a_at _)) (Nk ?_)))))))
         refine Pre.caseB 50 I (fun han=>?_) (fun han=>?_)
         · refine Ai I (Do8 (rg 7) 1944 (fun w2=>(Ad bm 154 ((Di (x.q.M.at' i).nd.msgs r.k).1).c).at w2/\(RDE b r).at w2) I St.drawn (H2 0 6 I) (Dq I (AP ((Di (x.q.M.at' i).nd.msgs r.k).1.c) I Cm Bi I (fun _ h=>h.1) (Bm _) (Ms.e6 _)) (Dm I (Dc I (Dfa Bw I Bi I (Dq I (AP ((Rdr.m r).c) I Cm Bi I (fun _ h=>h.2) (Rdr.m_part _) (Ms.e6 _)) (d_t I (E1 (GI (Di (x.q.M.at' i).nd.msgs r.k).1 r.m) I call180 Tt (fun _ _=>d_t I (Ah I I Bi I I (Ms.e6 _) (Ms.one _) (by first|decide|(show 0+(Ms.c _).length<=(Ms.c _).length;rw[Ms.e6,Ms.e6];decide)) (Ce ((mco (Di (x.q.M.at' i).nd.msgs r.k).1 r.m)).c (Sep.e7 (by first|rfl|(show (Ms.c _).length=_;rw[Ms.e6,Ms.e6]))) (AK (Kt (Cr I (Lm I (Lm I (Lq I (Cq ((mco (Di (x.q.M.at' i).nd.msgs r.k).1 r.m).c) Cm Bi 0 I (Bm _) (Ms.e6 _)) (Lc I (Lfa Bw I Bi I (D0 (l_e I (Ah I I Bi I I (Ms.e6 _) (Ms.one _) (by rw[Ms.e6,Rdr.e6];decide) (Ce (({r with m:=(mco (Di (x.q.M.at' i).nd.msgs r.k).1 r.m)}:Rdr)).c (Rdr.set_m _ _) (Lc I (Lfa Bw I Z4 I (l_e I (AF I I Z4 I I I (by rw[Rdr.e6];decide) (Ce (({({r with m:=(mco (Di (x.q.M.at' i).nd.msgs r.k).1 r.m)}:Rdr) with any:=true}:Rdr)).c (Rdr.set_a _ _) (AB (AM (Av (Ig ?_))))))))))))))))))))))))))))))))
           refine Pm [2,2,2,2,2,1,1,1,1,1,1] I ?_
           exact Bb (()) trivial (Si I) (fun _ h=>by rw[Yk his han];exact h)
         · refine Ab I (Ae (Kt (Cr I (Lm I (Lm I (Lq I (Cq ((Di (x.q.M.at' i).nd.msgs r.k).1.c) Cm Bi 0 I (Bm _) (Ms.e6 _)) (Lc I (Lfa Bw I Bi I (D0 (l_e I (Ah I I Bi I I (Ms.e6 _) (Ms.one _) (by rw[Ms.e6,Rdr.e6];decide) (Ce (({r with m:=(Di (x.q.M.at' i).nd.msgs r.k).1}:Rdr)).c (Rdr.set_m _ _) (Lc I (Lfa Bw I Z4 I (l_e I (AF I I Z4 I I I (by rw[Rdr.e6];decide) (Ce (({({r with m:=(Di (x.q.M.at' i).nd.msgs r.k).1}:Rdr) with any:=true}:Rdr)).c (Rdr.set_a _ _) (AB (AM (Av (Pm [9,9,9] I ?_)))))))))))))))))))))
           refine Pm [4,4,4,4,4,3,3,3,3] I ?_
           exact Bb (()) trivial (Si I) (fun _ h=>by rw[Yj his han];exact h)
       · refine Ab I (Ae (Av ?_))
         exact Bb (()) trivial (Si I) (fun _ h=>by rw[aP his];exact h)
     · intro _u _
       refine Ag (Do8 [0,1,2,3,4,5,6,7,9,10,11,12,13,8,14,15,16,17,18,19,20,21,22,23,24,25,26,27,28] 66968388108117 (fun w2=>(Ad bn 135 (⟨s,(x.q.M.at' i).nd⟩:NV).c).at w2/\RdV w2 s.k.v (AG .i64) (x.q.M.at' i).nd.kids) I St.drawn (fun _ h=>⟨h.at 0 rfl,h.rd 2 rfl⟩) (Dm I (Dm I (Dm I (Dm I (Dm I (Dm I (Dc I (Dfa Bw I Z3 I (Dfa CT I Z22 I (Dq I (Ao I G22 I (fun _ h=>h.1) I) (Dm I (Dq I (As (FP (x.q.M.at' i).nd.piv r.k) I U22 Z3 I (fun _ h=>h.2) I I (by omega)) (Dq I (AI (FP (x.q.M.at' i).nd.piv r.k) 0 I G3 I I (fun _ h=>h.2) hkid I) (d_e I (e_q I I (Ao I G3 I (Hat 5 I) (Rdr.mid _ (j:=1) I)) (Aj (fun _ h=>⟨h.at 0 rfl,h.rd 2 rfl⟩) (Dc I (Dfa Bw I Z3 I (Ex (d_e I (AF I I Z3 I I I (by rw[Rdr.e6];decide) (Ce (({(Rdr.gat r (x.q.M.at' i).nd.msgs) with par:=(Rdr.gat r (x.q.M.at' i).nd.msgs).blk}:Rdr)).c (Rdr.set_mid (j:=2) I (by decide) I) ?_)))))))))))))))))))))))
       refine Aj (fun _ h=>⟨h.at 1 rfl,h.rd 3 rfl⟩) (Dc I (Dfa Bw I Z3 I (d_e I (AF I I Z3 I I I (by rw[Rdr.e6];decide) (Ce (({({(Rdr.gat r (x.q.M.at' i).nd.msgs) with par:=(Rdr.gat r (x.q.M.at' i).nd.msgs).blk}:Rdr) with blk:=kid}:Rdr)).c (Rdr.set_mid (j:=1) I (by decide) I) (Aj (fun _ h=>⟨h.at 1 rfl,h.rd 3 rfl⟩) (Dc I (Dfa Bw I Z4 I (d_e I (AF I I Z4 I I I (by rw[Rdr.e6];decide) (Ce (({({({(Rdr.gat r (x.q.M.at' i).nd.msgs) with par:=(Rdr.gat r (x.q.M.at' i).nd.msgs).blk}:Rdr) with blk:=kid}:Rdr) with abv:=true}:Rdr)).c (Rdr.set_mid (j:=4) I (by decide) I) (Aj (fun _ h=>⟨h.at 1 rfl,h.rd 3 rfl⟩) (Dc I (Dfa Bw I Z4 I (d_e I (AF I I Z4 I I I (by rw[Rdr.e6];decide) (Ce (({({({({(Rdr.gat r (x.q.M.at' i).nd.msgs) with par:=(Rdr.gat r (x.q.M.at' i).nd.msgs).blk}:Rdr) with blk:=kid}:Rdr) with abv:=true}:Rdr) with pin:=false}:Rdr)).c (Rdr.set_mid (j:=3) I (by decide) I) (Aj (fun _ h=>⟨h.at 1 rfl,h.rd 3 rfl⟩) (d_t I (e_q I I (Bt I I) (d_t I (e_q I I (Ba I Bw I Z3 I I) (d_t I ?_)))))))))))))))))))))))
       refine AF I I Z3 I I I (by rw[Rdr.e6];decide) (Ce (({({({({({(Rdr.gat r (x.q.M.at' i).nd.msgs) with par:=(Rdr.gat r (x.q.M.at' i).nd.msgs).blk}:Rdr) with blk:=kid}:Rdr) with abv:=true}:Rdr) with pin:=false}:Rdr) with at':=1}:Rdr)).c (Rdr.set_mid (j:=0) I (by decide) I) (AK (Kt (Af (Aa (Pm [1,1,1,1,1] I (Av (Av (Av (Av (Av (Bv I ?_))))))))))))
       exact fun _ hh=>⟨(),rfl,trivial,hh⟩
theorem Yl {r:Rdr} {l:List En} (h:r.any=false):({r with v:=(r.endv l).1,f:=(r.endv l).2}:Rdr)={({r with v:=(AS l r.k).1}:Rdr) with f:=(AS l r.k).2}:=by
 unfold Rdr.endv;rw[h];rfl
theorem VJ {r:Rdr} {l:List En} (h:r.any=true):r.endv l=D6 (AS l r.k).1 (AS l r.k).2 r.m:=by
 unfold Rdr.endv;rw[fO h]
theorem VK (h:x.Ok B) (b:Nat) (r:Rdr) (ht:tkB r.t=true) {i:Nat} (hf:x.q.M.frI (r.blk:Int) 2=some i) (hke:(x.q.M.at' i).nd.kids=[]) (hri:B8 (x.q.M.at' i).nd.es) (hh:DH (x.hm.lat i) r.t=true):Con prog 123 [ptV b,ptV x.bh] (fun _=>True) (RDE b r::x.H) (fun _:HQ=>.tuple #[]) (fun y=>y.bh=x.bh/\y.Ok B/\y.hm=x.hm.leave i r.t r.blk) (fun y=>RDE b (r.fin (x.q.M.at' i).nd.es)::y.H):=by
 intro w hE hH
 have hi9:=h.latI hf
 obtain⟨l9,hl9⟩:=hi9
 have hsm:((x.q.M.at' i).nd).Sm 1000:=h.q.ok.es _ (by unfold Mo.at';rw[ju];obtain⟨z,hz,_⟩:=C6 (EU hf).1;rw[hz];exact hY hz)
 refine Ey func123 I hH ?_
 refine Ag ?_
 refine DC (fun (s:N4) (bn:Nat)=>[(0,ptV b),(1,ptV x.bh),(4,.pointer (some ⟨bn,0,none⟩)),(5,.bool true)]) (fun (s:N4) (bn:Nat)=>St w (dom (RDE b r::x.H)) (Ad bn 135 (⟨s,(x.q.M.at' i).nd⟩:NV).c::(Bz (⟨s,(x.q.M.at' i).nd⟩:NV)++(RDE b r::x.H)))) (fun (s:N4) (bn:Nat)=>True) ?_ ?_
 · refine EZ (fun w2=>(RDE b r).at w2/\(Ad x.bh 91 x.cells).at w2) I St.drawn (Aq 0 I (H2 0 1 I) (A0 I I) (Aq 1 I (H2 0 1 I) (Bt I I) (Aq 2 I (H2 0 1 I) (Ba I U91 I Z86 I I) (Aq 3 I (H2 0 1 I) (Ao I G86 I (fun _ h=>h.2) I) (Aq 4 I (H2 0 1 I) (A0 I I) (Aq 5 I (H2 0 1 I) (Bt I I) (Aq 6 I (H2 0 1 I) (Ba I Bw I Z3 I I) (Aq 7 I (H2 0 1 I) (Ao I G3 I (fun _ h=>h.1) (Rdr.mid _ (j:=1) I)) ?_))))))))
   refine BK 8 12 (by kernel_rfl) I I I I ?_ ?_
   · refine Ee [_] (Gd h hf) I call116 Tt (fun s _=>Pw (St _ _ (_::_::_::_::_::HQ.H (x))) ?_)
     refine Aj (H2 0 5 I) (Aq 9 I (H2 0 5 I) (A0 I I) (Aq 10 I (H2 0 5 I) (Qx I) (Aq 11 I (H2 0 5 I) (Qx I) (AH 12 (by kernel_rfl) I I (Au I I I zeroValue135 (fun bn=>Ce nv0.c I (Aj (H2 1 6 I) (AH 13 (by kernel_rfl) I I (Ah I I AR I I I (NV.one _) (by show 0+5<=5;decide) (Ay (show Sep.splice _ 0 ((⟨s,(x.q.M.at' i).nd⟩:NV)).c=((⟨s,(x.q.M.at' i).nd⟩:NV)).c from Sep.e7 I) (Aj (H2 1 6 I) (Aq 14 I (H2 1 6 I) (AE I I) (BW (by kernel_rfl) (Pm [0,1,1,1,1] I ?_))))))))))))))
     exact Bb ((s,bn)) trivial (Si I) (fun _ h=>h)
   · refine Au I I I zeroValue135 (fun bn=>Ce nv0.c I (Aj (H2 1 2 I) (AH 8 (by kernel_rfl) I I (Ee [_,_] (Gd h hf) I call116 Tt (fun s _=>Pw (St _ _ (_::_::_::_::_::_::HQ.H (x))) ?_)))))
     refine Aj (H2 1 6 I) (Aq 9 I (H2 1 6 I) (A0 I I) (Aq 10 I (H2 1 6 I) (Qx I) (Aq 11 I (H2 1 6 I) (Qx I) (AH 13 (by kernel_rfl) I I (Ah I I AR I I I (NV.one _) (by show 0+5<=5;decide) (Ay (show Sep.splice _ 0 ((⟨s,(x.q.M.at' i).nd⟩:NV)).c=((⟨s,(x.q.M.at' i).nd⟩:NV)).c from Sep.e7 I) (Aj (H2 1 6 I) (Aq 14 I (H2 1 6 I) (AE I I) (BW (by kernel_rfl) (Pm [0,1,1,1,1] I ?_))))))))))
     exact Bb ((s,bn)) trivial (Si I) (fun _ h=>h)
 · intro s bn _
   refine Ag (Ag (Do8 (rg 8) 5832 (fun w2=>(RDE b r).at w2/\(Ad x.bh 91 x.cells).at w2/\(Ad bn 135 ((⟨s,(x.q.M.at' i).nd⟩:NV).c)).at w2) I St.drawn (fun _ h=>⟨h.at 5 rfl,h.at 6 rfl,h.at 0 rfl⟩) (Dfa CT I Ni I (Dq I (Ao I isAgg132 I (fun _ h=>h.2.2) I) (Dm I (Dc I (Dfa Bw I Z77 I (Dq I (AP ((Rdr.k r).c) I G77 Z77 I (fun _ h=>h.1) (Rdr.k_part _) (Kv.e6 _)) (d_t I (E1 (Ly (x.q.M.at' i).nd.piv r.k (gF hsm.p (by decide))) I call178 (Hrd 3 I) (fun _ _=>d_t I (e_q I I (AE I I) (AK (Kt (Cs I (Lm I (Lm I (Lm I (Lfa CT I Z22 I (Lo G22 0 I (Lq I (AL I U22 I (Hrd 2 I)) (Lq I (Ql I) (Lq I (Qy I) (Nk (Sf 35 I (by show ¬((FP (x.q.M.at' i).nd.piv r.k:Nat):Int)<(((x.q.M.at' i).nd.kids.length:Nat):Int);rw[hke];simp) (Ab I (Ae (Ks (D8 [(0,O),(1,O),(2,O),(3,O),(4,O),(5,O),(6,O),(7,O),(8,V),(9,O),(10,O),(11,O),(12,O),(13,O),(14,V),(15,W),(16,W),(17,W)] [15,16,17] [(_,O),(_,O),(_,O),(_,O),(_,O),(_,O),(_,O),(_,O),(_,V),(_,O),(_,O),(_,O),(_,O),(_,O),(_,V),(_,W),(_,W),(_,W)] (fun w2=>(∃cs,(Ad b 226 cs).at w2/\(cs.drop 1).take 9=r.k.c)/\(Ad bn 135 (⟨s,(x.q.M.at' i).nd⟩:NV).c).at w2) rfl rfl rfl rfl St.drawn (fun _ h=>⟨⟨_,h.at 5 rfl,Rdr.k_part _⟩,h.at 0 rfl⟩) (Dm I (Dm I (Dfa CT I Z49 I (Dq I (Ao I G49 I (fun _ h=>h.2) I) (Dm I ?_))))))))))))))))))))))))))))))))))
   refine Dc I (Dfa Bw I Z77 I (Dq I (I4 r.k.c I G77 Z77 I (fun _ h=>h.1) (Kv.e6 _)) (d_e I (E1 (PF (x.q.M.at' i).nd.es r.k hri (gF hsm.e (by decide))) I call181 (Hrd 1 I) (fun _ _=>Aj (fun _ h=>⟨⟨_,h.at 5 rfl,Rdr.k_part _⟩,h.at 0 rfl⟩) (Dm I (Dq I (Qx I) (Dq I (Qx I) (Dc I (Dfa Bw I Z56 I (Ex (d_e I (Ah I I Z56 I I (Kv.e6 _) (Kv.one _) (by rw[Kv.e6,Rdr.e6];decide) (Ce (({r with v:=(AS (x.q.M.at' i).nd.es r.k).1}:Rdr)).c (Rdr.set_v _ _) (Aj (fun _ h=>⟨⟨_,h.at 0 rfl,Rdr.k_part _⟩,h.at 1 rfl⟩) (d_t I (e_q I I (Bt I I) (d_t I (e_q I I (Ba I Bw I Z4 I I) (d_t I (AF I I Z4 I I I (by rw[Rdr.e6];decide) (Ce (({({r with v:=(AS (x.q.M.at' i).nd.es r.k).1}:Rdr) with f:=(AS (x.q.M.at' i).nd.es r.k).2}:Rdr)).c (Rdr.set_f _ _) (AK (Ks (Cs I (Lm I (Lc I (Lfa Bw I Z4 I ?_))))))))))))))))))))))))))))
   refine Lq I (Ao I G4 I (Hat 0 I) (Rdr.a_at _)) (Nk ?_)
   refine Gp (fun (_u:Unit)=>[(0,ptV b),(1,ptV x.bh)]) (fun (_u:Unit)=>St w (dom (RDE b r::x.H)) (Ad bn 135 (⟨s,(x.q.M.at' i).nd⟩:NV).c::(Bz (⟨s,(x.q.M.at' i).nd⟩:NV)++(RDE b ({r with v:=(r.endv (x.q.M.at' i).nd.es).1,f:=(r.endv (x.q.M.at' i).nd.es).2}:Rdr)::x.H)))) (fun (_u:Unit)=>True) ?_ ?_
   · refine Pre.caseB 107 I (fun han=>?_) (fun han=>?_)
     · try simp only[B4] at han
       refine Ai I (D8 [(0,O),(1,O),(2,O),(3,O),(4,O),(6,O),(7,O),(8,O),(9,O),(10,O),(11,O),(12,O),(13,O),(5,V),(14,V),(15,O),(16,O),(17,O),(18,O),(19,O),(20,V),(21,W),(22,W),(23,W)] [21,22,23] [(_,O),(_,O),(_,O),(_,O),(_,O),(_,O),(_,O),(_,O),(_,O),(_,O),(_,O),(_,O),(_,O),(_,V),(_,V),(_,O),(_,O),(_,O),(_,O),(_,O),(_,V),(_,W),(_,W),(_,W)] (fun w2=>∃cs,(Ad b 226 cs).at w2/\(cs.drop 15).take 29=r.m.c/\cs[62]?=some (.bool (AS (x.q.M.at' i).nd.es r.k).2)) rfl rfl rfl rfl St.drawn (fun _ h=>⟨_,h.at 0 rfl,Rdr.m_part _,Rdr.f_at _⟩) (Dm I (Dm I (Dm I (Dc I (Dfa Bw I Z56 I (Dm I (Dc I (Dfa Bw I Z4 I (Dq I (VF I G4 I (fun _ ⟨cs,h1,_,h3⟩=>⟨cs,h1,h3⟩)) (Dm I (Dc I (Dfa Bw I Bi I (Dq I (I4 r.m.c I Cm Bi I (fun _ ⟨cs,h1,h2,_⟩=>⟨cs,h1,h2⟩) (Ms.e6 _)) (d_e I (e_q I I (Cq ((AS (x.q.M.at' i).nd.es r.k).1.c) G56 Z56 0 I (Rdr.v_part _) (Kv.e6 _)) (Aj (fun _ h=>⟨_,h.at 0 rfl,Rdr.m_part _,Rdr.f_at _⟩) (d_e I (E1 (F6 (AS (x.q.M.at' i).nd.es r.k).1 (AS (x.q.M.at' i).nd.es r.k).2 r.m) I call159 Tt ?_)))))))))))))))))))
       intro _ _
       rw[<-VJ han]
       refine Aj (fun _ h=>⟨_,h.at 0 rfl,Rdr.m_part _,Rdr.f_at _⟩) (Dm I (Dq I (Qx I) (Dq I (Qx I) (Dc I (Dfa Bw I Z56 I (d_e I (Ah I I Z56 I I (Kv.e6 _) (Kv.one _) (by rw[Kv.e6,Rdr.e6];decide) (Ce (({({({r with v:=(AS (x.q.M.at' i).nd.es r.k).1}:Rdr) with f:=(AS (x.q.M.at' i).nd.es r.k).2}:Rdr) with v:=(r.endv (x.q.M.at' i).nd.es).1}:Rdr)).c (Rdr.set_v _ _) (Aj (fun _ h=>⟨_,h.at 0 rfl,Rdr.m_part _,Rdr.f_at _⟩) (d_t I (e_q I I (Bt I I) (d_t I (e_q I I (Ba I Bw I Z4 I I) (d_t I (AF I I Z4 I I I (by rw[Rdr.e6];decide) (Ce (({({({({r with v:=(AS (x.q.M.at' i).nd.es r.k).1}:Rdr) with f:=(AS (x.q.M.at' i).nd.es r.k).2}:Rdr) with v:=(r.endv (x.q.M.at' i).nd.es).1}:Rdr) with f:=(r.endv (x.q.M.at' i).nd.es).2}:Rdr)).c (Rdr.set_f _ _) (AK (Pm [6,6,6,6,6,6] I ?_))))))))))))))))))
       refine Pm [7,7,7,7,7,6] I ?_
       exact Bb (()) trivial (Si I) (fun _ h=>h)
     · try simp only[B4] at han
       refine Ab I (Ae (Pm [1,1,1,1,1] I ?_))
       exact Bb (()) trivial (Si I) (fun _ h=>by rw[Yl han];exact h)
   · intro _u _
     refine Ag (Do8 (rg 10) 39366 _ I St.drawn Ih (Dm I (Dm I (Dc I (Dfa Bw I Z3 I (Dq I (Ao I G3 I (Hat 5 I) I) (Dm I (Dc I (Dfa Bw I Z3 I (Dq I (Ao I G3 I (Hat 5 I) (Rdr.mid _ (j:=1) I)) (d_t I ?_)))))))))))
     refine Ee [_,_,_,_,_,_] (PY h ht hf hh) I call122 Tt ?_
     rintro⟨y,v⟩ ⟨hbh,hk,hy⟩
     refine Pw (St _ _ (_::_::_::_::_::_::HQ.H (y))) ?_
     refine AK (Kt (Cr I (Lm I (Lm I (Lc I (Lfa Bw I Z3 I (Ex (l_e I (AF I I Z3 I I I (by rw[Rdr.e6];decide) (Ce (({({r with v:=(r.endv (x.q.M.at' i).nd.es).1,f:=(r.endv (x.q.M.at' i).nd.es).2}:Rdr) with at':=6}:Rdr)).c (Rdr.set_mid (j:=0) I (by decide) I) (Lc I (Lfa Bw I Z4 I (l_e I (AF I I Z4 I I I (by rw[Rdr.e6];decide) (Ce (({({({r with v:=(r.endv (x.q.M.at' i).nd.es).1,f:=(r.endv (x.q.M.at' i).nd.es).2}:Rdr) with at':=6}:Rdr) with pin:=false}:Rdr)).c (Rdr.set_mid (j:=3) I (by decide) I) (AB (Bl (Pm [6,6,6,6,6,6] I ?_))))))))))))))))))
     refine Pm [7,7,7,7,7,6] I (Av (Av (Av (Av (Av (Bv I ?_))))))
     exact fun _ hh=>⟨y,rfl,⟨hbh,hk,hy⟩,hh⟩
theorem aQ (h:x.Ok B) (b:Nat) (r:Rdr) (ht:tkB r.t=true) (hmay:x.hm.may r.t=true) (hat:r.at'=5) {i:Nat} (hf:x.q.M.frI (r.blk:Int) 2=some i) (hrm:DV Ms.key (x.q.M.at' i).nd.msgs) {kid:Nat} (hkid:(x.q.M.at' i).nd.kids[FP (x.q.M.at' i).nd.piv r.k]?=some (kid:Int)):Con prog 77 [ptV b,ptV x.bh] (fun _=>True) (RDE b r::x.H) (fun _:Unit=>.bool false) (fun _=>True) (fun _=>RDE b (r.down (x.q.M.at' i).nd.msgs kid)::x.H):=by
 intro w hE hH
 refine Ey func77 I hH ?_
 refine Cs I (Ak I (Gq 0 I (Ag (Cs I (Lm I (Lc I (Lfa Bw I Z3 I (Lq I (Ao I G3 I (Hat 0 I) (Rdr.mid _ (j:=0) I)) (Lq I (Qe I) (Lm I (Sb 10 false I (by rw[hat];rfl) (Lm I (Lm I (Lc I (Lfa Bw I Z3 I (Lo G3 0 I (l_e I (Ee [_] (GF h r.t) I call82 Tt (fun _ _=>Pw (St _ _ (_::HQ.H (x))) ?_)))))))))))))))))))
 refine Sv' 16 (.bool true) I (by rw[hmay]) (Lq I (Qt I) (Lq I (Qz I) (Nk (Ab I (Ae (Ks (Cs I (Lm I (Lc I (Lfa Bw I Z3 I (Lq I (Ao I G3 I (Hat 0 I) (Rdr.mid _ (j:=0) I)) (Nk (Al (Cs I (Lq I (Qe I) (Ak I (Sb 23 false I (by rw[hat];rfl) (Ab I (Cs I (Lq I (Qe I) (Ak I (Sb 52 false I (by rw[hat];rfl) (Ab I ?_)))))))))))))))))))))))
 refine Cs I (Lq I (Qe I) (Ak I (Sb 67 false I (by rw[hat];rfl) (Ab I (Cs I (Lq I (Qe I) (Ak I (Sb 89 false I (by rw[hat];rfl) (Ab I (Ae (Aw (Kt (Cs I (Lm I (Lm I (l_e I (Ee [] (VI h b r hf hrm hkid) I call123 Tt (fun _ _=>Pw (St _ _ (_::HQ.H x)) ?_))))))))))))))))))
 refine Ns (QR (Kt (Cs I (Lm I (Lc I (Lfa Bw I Z3 I (Lq I (Ao I G3 I (Hat 0 I) (Rdr.mid _ (j:=0) I)) (Lq I (Qe I) (Ak I (Af (JA (An I I ?_))))))))))))
 exact fun _ hh=>⟨(),rfl,trivial,hh⟩
theorem dx (h:x.Ok B) (b:Nat) (r:Rdr) (ht:tkB r.t=true) (hmay:x.hm.may r.t=true) (hat:r.at'=5) {i:Nat} (hf:x.q.M.frI (r.blk:Int) 2=some i) (hke:(x.q.M.at' i).nd.kids=[]) (hri:B8 (x.q.M.at' i).nd.es) (hh:DH (x.hm.lat i) r.t=true):Con prog 77 [ptV b,ptV x.bh] (fun _=>True) (RDE b r::x.H) (fun y:HQ=>.bool true) (fun y=>y.bh=x.bh/\y.Ok B/\y.hm=x.hm.leave i r.t r.blk) (fun y=>RDE b (r.fin (x.q.M.at' i).nd.es)::y.H):=by
 intro w hE hH
 refine Ey func77 I hH ?_
 refine Cs I (Ak I (Gq 0 I (Ag (Cs I (Lm I (Lc I (Lfa Bw I Z3 I (Lq I (Ao I G3 I (Hat 0 I) (Rdr.mid _ (j:=0) I)) (Lq I (Qe I) (Lm I (Sb 10 false I (by rw[hat];rfl) (Lm I (Lm I (Lc I (Lfa Bw I Z3 I (Lo G3 0 I (l_e I (Ee [_] (GF h r.t) I call82 Tt (fun _ _=>Pw (St _ _ (_::HQ.H (x))) ?_)))))))))))))))))))
 refine Sv' 16 (.bool true) I (by rw[hmay]) (Lq I (Qt I) (Lq I (Qz I) (Nk (Ab I (Ae (Ks (Cs I (Lm I (Lc I (Lfa Bw I Z3 I (Lq I (Ao I G3 I (Hat 0 I) (Rdr.mid _ (j:=0) I)) (Nk (Al (Cs I (Lq I (Qe I) (Ak I (Sb 23 false I (by rw[hat];rfl) (Ab I (Cs I (Lq I (Qe I) (Ak I (Sb 52 false I (by rw[hat];rfl) (Ab I ?_)))))))))))))))))))))))
 refine Cs I (Lq I (Qe I) (Ak I (Sb 67 false I (by rw[hat];rfl) (Ab I (Cs I (Lq I (Qe I) (Ak I (Sb 89 false I (by rw[hat];rfl) (Ab I (Ae (Aw (Kt (Cs I (Lm I (Lm I (l_e I (Ee [] (VK h b r ht hf hke hri hh) I call123 Tt ?_)))))))))))))))))
 rintro y ⟨hbh,hk,hy⟩
 refine Pw (St _ _ (_::HQ.H y)) ?_
 refine Ns (QR (Kt (Cs I (Lm I (Lc I (Lfa Bw I Z3 I (Lq I (Ao I G3 I (Hat 0 I) (Rdr.mid _ (j:=0) I)) (Lq I (Qe I) (Ak I (Af (JA (An I I ?_))))))))))))
 exact fun _ hh=>⟨y,rfl,⟨hbh,hk,hy⟩,hh⟩
theorem VL (a b:Kv 8):BC b a = -BC a b:=Mn _ _
theorem Gw {l:List En} {m:Ms} (hs:B8 l) (hk:∀e∈l,kck e.key=true) (hm:kck m.key=true):B8 (Bu l m):=by
 have hcross:∀a∈l.take (Ci l m.key),∀b∈l.drop (Ci l m.key),BC a.key b.key<0:=by
  have h1:(l.take (Ci l m.key)++l.drop (Ci l m.key)).Pairwise (fun a b:En=>BC a.key b.key<0):=by rw[gP];exact hs
  exact (kp.1 h1).2.2
 have hlow:∀a∈l.take (Ci l m.key),BC a.key m.key<0:=fun a ha=>by
  obtain⟨j,hj⟩:=jK.1 ha
  rw[fN] at hj
  split at hj
  · rename_i hlt;exact Rc hlt hj
  · cases hj
 have hnew:∀b∈DG l m,b.key=m.key:=fun b hb=>by
  unfold DG at hb
  split at hb
  · simp at hb;rw[hb]
  · simp at hb
 have hhigh:∀b∈l.drop (Ci l m.key+(if lis l m.key=true then 1 else 0)),BC m.key b.key<0:=fun b hb=>by
  obtain⟨j,hj⟩:=jK.1 hb
  rw[fQ] at hj
  by_cases hl:lis l m.key=true
  · rw[fO hl] at hj
    obtain⟨e,h1,h2,_⟩:=PE hl
    have:=Hy hs _ _ e b (by omega) h1 hj
    rwa[h2] at this
  · rw[fR hl] at hj
    have hge:=Hz (k:=m.key) hs (by omega) hj
    have hne:BC m.key b.key≠0:=fun h0=>by
     have hbk:=hk b (hY hj)
     have he:b.key=m.key:=(XG hm hbk (Hu h0)).symm
     rcases gh j with h|h
     · subst h
       refine hl ?_
       unfold lis
       rw[show Ci l m.key+0+0=Ci l m.key by omega] at hj
       rw[hj]
       exact jq he
     · obtain⟨d,hd⟩:∃d,l[Ci l m.key]?=some d:=⟨_,fD (by have:=(gl.1 hj).1;omega)⟩
       have h3:=Hy hs _ _ d b (by omega) hd hj
       rw[he] at h3
       exact Hz hs (ga _) hd h3
    have h2:=VL b.key m.key
    omega
 have hsub:∀b∈l.drop (Ci l m.key+(if lis l m.key=true then 1 else 0)),b∈l.drop (Ci l m.key):=fun b hb=>by
  rw[<-fX] at hb
  exact List.mem_of_mem_drop hb
 unfold Bu B8
 rw[gK]
 refine kp.2 ⟨hs.sublist (kr _ _),kp.2 ⟨?_,hs.sublist (List.drop_sublist _ _),fun a ha b hb=>by rw[hnew a ha];exact hhigh b hb⟩,fun a ha b hb=>?_⟩
 · unfold DG;split
   · exact List.pairwise_singleton _ _
   · exact List.Pairwise.nil
 · rcases ib.1 hb with h|h
   · rw[hnew b h];exact hlow a ha
   · exact hcross a ha b (hsub b h)
theorem Fm (h:Cd (lfN es)=true):lck es=true/\lby es<=248:=by
 unfold Cd at h
 simp only[gQ,ia] at h
 exact⟨h.1.1,h.2⟩
theorem El (h:Cd (lfN es)=true):∀e∈es,kck e.key=true/\vck e.val=true:=fun e he=>by
 obtain⟨i,hi⟩:=jK.1 he
 have h1:=F8 hi (PI (Fm h).1 hi)
 exact⟨h1.1,h1.2.1⟩
theorem aR {v:Kv 16} (h:vck v=true):0<=v.n:=by
 unfold vck at h
 rcases Int.lt_or_le v.n 0 with h0|h0
 · exfalso
   unfold C0 at h
   simp at h
   omega
 · exact h0
theorem Rs:∀{es:List En},(∀e∈es,kck e.key=true/\vck e.val=true)->2*(es.length:Int)<=lby es
 |[],_=>by simp[lby]
 |e::es,h=>by
  have ih:=Rs (es:=es) (fun x hx=>h x (iR _ hx))
  obtain⟨h1,h2⟩:=h e (iG ..)
  obtain⟨m,hm,_⟩:=DJ h1
  have hv:=aR h2
  have e1:lby (e::es)=lsz e+lby es:=by simp[lby]
  rw[e1,fv]
  unfold lsz
  omega
theorem MI (h:Cd (lfN es)=true):(lfN es).Sm 1000:=by
 have h1:=Rs (El h)
 have h2:=(Fm h).2
 exact⟨by show es.length<=1000;omega,gb _,gb _,gb _⟩
theorem Kh (k:Kv 16):∃a b c d e f g h a2 b2 c2 d2 e2 f2 g2 h2:Int,k.b=[a,b,c,d,e,f,g,h,a2,b2,c2,d2,e2,f2,g2,h2]:=by
 obtain⟨n,b,len,_,_⟩:=k
 match b,len with
 |[a,b,c,d,e,f,g,h,a2,b2,c2,d2,e2,f2,g2,h2],_=>exact⟨a,b,c,d,e,f,g,h,a2,b2,c2,d2,e2,f2,g2,h2,rfl⟩
structure Wr where
 t:Int
 m:Ms
 at':Int
 pin:Bool
 room:Value
 e:Int
def Ms.e9 (m:Ms) (s:Int) (h:(Lit.int .u64 s).wf=true):Ms:={m with seq:=s,ws:=h}
theorem Ms.set_seq (m:Ms) (s:Int) (h:(Lit.int .u64 s).wf=true):m.c.set 1 (.int .u64 s)=(m.e9 s h).c:=rfl
namespace Wr
def four (w:Wr):List Value:=[.int .i64 w.at',.bool w.pin,w.room,.int .i64 w.e]
def c (w:Wr):List Value:=(.int .i64 w.t::w.m.c)++w.four
theorem e6 (w:Wr):w.c.length=34:=by simp[c,four,Ms.e6]
theorem hd_len (w:Wr):(Value.int .i64 w.t::w.m.c).length=30:=by simp[Ms.e6]
theorem mid (w:Wr) {j:Nat} {v:Value} (h:w.four[j]?=some v):w.c[30+j]?=some v:=by
 unfold c
 rw[fP (by rw[hd_len];omega),hd_len,ko]
 exact h
theorem m_part (w:Wr):(w.c.drop 1).take 29=w.m.c:=by
 unfold c
 rw[fu,gU,fV]
 exact List.take_left' (Ms.e6 _)
theorem set_mid {w w':Wr} {j:Nat} {v:Value} (ht:w'.t=w.t) (hm:w'.m=w.m) (h:w.four.set j v=w'.four):w.c.set (30+j) v=w'.c:=by
 unfold c
 rw[iq _ _ (by rw[hd_len];omega),hd_len,ko,h,ht,hm]
end Wr
abbrev WRE (b:Nat) (w:Wr):Ent:=Ad b 229 w.c
theorem Td (t ki sq kn a b c d e f g h vn i0 i1 i2 i3 i4 i5 i6 i7 i8 i9 j0 j1 j2 j3 j4 j5 bw:Int) (w:World):(Instr.build 229 #[(0,.int .i64 t),(1,.agg [.int .i64 ki,.int .u64 sq,.int .i64 kn,.int .u8 a,.int .u8 b,.int .u8 c,.int .u8 d,.int .u8 e,.int .u8 f,.int .u8 g,.int .u8 h,.int .i64 vn,.int .u8 i0,.int .u8 i1,.int .u8 i2,.int .u8 i3,.int .u8 i4,.int .u8 i5,.int .u8 i6,.int .u8 i7,.int .u8 i8,.int .u8 i9,.int .u8 j0,.int .u8 j1,.int .u8 j2,.int .u8 j3,.int .u8 j4,.int .u8 j5,.int .u64 bw].toArray)]).run prog w=.ok (.agg [.int .i64 t,.int .i64 ki,.int .u64 sq,.int .i64 kn,.int .u8 a,.int .u8 b,.int .u8 c,.int .u8 d,.int .u8 e,.int .u8 f,.int .u8 g,.int .u8 h,.int .i64 vn,.int .u8 i0,.int .u8 i1,.int .u8 i2,.int .u8 i3,.int .u8 i4,.int .u8 i5,.int .u8 i6,.int .u8 i7,.int .u8 i8,.int .u8 i9,.int .u8 j0,.int .u8 j1,.int .u8 j2,.int .u8 j3,.int .u8 j4,.int .u8 j5,.int .u64 bw,.int .i64 0,.bool false,.pointer none,.int .i64 0].toArray) w:=by kernel_rfl
theorem VM (t:Int) (m:Ms) (w:World):(Instr.build 229 #[(0,.int .i64 t),(1,.agg m.c.toArray)]).run prog w=.ok (.agg (Wr.c ⟨t,m,0,false,.pointer none,0⟩).toArray) w:=by
 obtain⟨ki,sq,key,val,by',h1,h2,h3⟩:=m
 obtain⟨a,b,c,d,e,f,g,h,hk⟩:=F3 key
 obtain⟨i0,i1,i2,i3,i4,i5,i6,i7,i8,i9,j0,j1,j2,j3,j4,j5,hv⟩:=Kh val
 have e1:(Ms.c ⟨ki,sq,key,val,by',h1,h2,h3⟩)=[.int .i64 ki,.int .u64 sq,.int .i64 key.n,.int .u8 a,.int .u8 b,.int .u8 c,.int .u8 d,.int .u8 e,.int .u8 f,.int .u8 g,.int .u8 h,.int .i64 val.n,.int .u8 i0,.int .u8 i1,.int .u8 i2,.int .u8 i3,.int .u8 i4,.int .u8 i5,.int .u8 i6,.int .u8 i7,.int .u8 i8,.int .u8 i9,.int .u8 j0,.int .u8 j1,.int .u8 j2,.int .u8 j3,.int .u8 j4,.int .u8 j5,.int .u64 by']:=by
  unfold Ms.c Kv.c
  rw[hk,hv];rfl
 unfold Wr.c
 dsimp only
 rw[e1]
 exact Td t ki sq key.n a b c d e f g h val.n i0 i1 i2 i3 i4 i5 i6 i7 i8 i9 j0 j1 j2 j3 j4 j5 by' w
theorem Te (t kn a b c d e f g h:Int) (w:World):(Instr.build 226 #[(0,.int .i64 t),(1,.agg [.int .i64 kn,.int .u8 a,.int .u8 b,.int .u8 c,.int .u8 d,.int .u8 e,.int .u8 f,.int .u8 g,.int .u8 h].toArray),(2,.int .i64 1),(3,.int .i64 0)]).run prog w=.ok (.agg [.int .i64 t,.int .i64 kn,.int .u8 a,.int .u8 b,.int .u8 c,.int .u8 d,.int .u8 e,.int .u8 f,.int .u8 g,.int .u8 h,.int .i64 1,.int .i64 0,.int .i64 0,.bool false,.bool false,.int .i64 0,.int .u64 0,.int .i64 0,.int .u8 0,.int .u8 0,.int .u8 0,.int .u8 0,.int .u8 0,.int .u8 0,.int .u8 0,.int .u8 0,.int .i64 0,.int .u8 0,.int .u8 0,.int .u8 0,.int .u8 0,.int .u8 0,.int .u8 0,.int .u8 0,.int .u8 0,.int .u8 0,.int .u8 0,.int .u8 0,.int .u8 0,.int .u8 0,.int .u8 0,.int .u8 0,.int .u8 0,.int .u64 0,.bool false,.int .i64 0,.int .u8 0,.int .u8 0,.int .u8 0,.int .u8 0,.int .u8 0,.int .u8 0,.int .u8 0,.int .u8 0,.int .u8 0,.int .u8 0,.int .u8 0,.int .u8 0,.int .u8 0,.int .u8 0,.int .u8 0,.int .u8 0,.bool false].toArray) w:=by kernel_rfl
theorem VN (t:Int) (k:Kv 8) (w:World):(Instr.build 226 #[(0,.int .i64 t),(1,.agg k.c.toArray),(2,.int .i64 1),(3,.int .i64 0)]).run prog w=.ok (.agg (Rdr.c ⟨t,k,1,0,0,false,false,ms0,false,kv0 16,false⟩).toArray) w:=by
 obtain⟨a,b,c,d,e,f,g,h,hk⟩:=F3 k
 have e1:k.c=[.int .i64 k.n,.int .u8 a,.int .u8 b,.int .u8 c,.int .u8 d,.int .u8 e,.int .u8 f,.int .u8 g,.int .u8 h]:=by
  unfold Kv.c;rw[hk];rfl
 unfold Rdr.c Rdr.hd
 dsimp only
 rw[e1]
 exact Te t k.n a b c d e f g h w
section
variable {P:Program} {n:Nat} {L:Env} {o:Oper} {Q:Exit->Act->World->Prop} {K:Act->World->Prop} {w0:World} {D:List Nat}
theorem EV {β:Type} {v:β->Value} {p:β->Prop} {E:World->Prop} {HA:List Ent} {HB:β->List Ent} {g:Operand} {f:FuncId} {xs:List Operand} {ts:Array TypeId} {d:Nat} {vs:List Value} (pre:List Ent) (s:Con P f vs E HA v p HB) (ho:o.op=.call ⟨.value g,xs.toArray,ts⟩) (hd:o.dst=some d) (hn:d.blt n=true) (hg:ev L g=some (.func (.func f) #[] #[]))
 (hc:∀us w,(callFunc f us).run P w=.ok (.enter f us) w) (hv:evs L xs=some vs) (hE:∀w,St w0 D (pre++HA) w->E w) (h:∀b,p b->Pre n ((d,v b)::L) (St w0 D (pre++HB b)) K):EOp P n L (St w0 D (pre++HA)) o Q K :=
 Fx (us:=[]) ho hd hn hg hc hv (fun w x=>by rw[jc];exact (s.frame (F:=pre) (x.perm js) (hE w x)).mono (fun e w' ⟨b,he,hp,h'⟩=>⟨b,he,hp,h'.perm js⟩)) h
end
abbrev rmC (t at':Int) (lo:Int) (has pin root:Bool) (e:Int):List Value:=[.int .i64 t,.bool true,.int .i64 at',.int .i64 0,.int .i64 lo,.bool has,.bool pin,.bool root,.int .i64 e]
abbrev RME (b:Nat) (t at':Int) (has:Bool) (e:Int):Ent:=Ad b 249 (rmC t at' 0 has false true e)
end Go.Proofs.YtloldofjddbjoaaGreat
namespace Go.Proofs.YtloldofjddbjoaaGreat
open Go.Sep Go.RowKit Tryz
variable {x:HQ} {B:Nat} {β:Type}
def Ki (e:Int):Int×Bool:=if e=1\/e=2 then (2,true) else if e=3 then (1,true) else (0,false)
theorem dy (h:x.Ok B) {t:Int} (ht:tkB t=true) (b:Nat) (m:Ms) (sq:Int) (hB:B+1<=60000) (hu:x.s.us[0]?=some true):Con prog 182 [ptV b,ptV x.bh,.int .u64 sq] (fun _=>True) (WRE b (⟨t,m,0,false,(.pointer none),0⟩:Wr)::x.H) (fun y:HQ=>.bool false) (fun y=>y.bh=x.bh/\y.Ok (B+1)/\y.hm=(x.hm.pin t ((0:Nat):Int)).2) (fun y=>WRE b (⟨t,m,(Ki (x.hm.pin t ((0:Nat):Int)).1).1,(Ki (x.hm.pin t ((0:Nat):Int)).1).2,(.pointer none),0⟩:Wr)::y.H):=by
 intro w hE hH
 refine Ey func182 I hH ?_
 refine Cs I (Ak I (Ag (Cs I (Lm I (Lm I (Lc I (Lfa BT I Z3 I (Lo G3 0 I ?_))))))))
 have hp3:=LF x.hm t ((0:Nat):Int)
 refine l_e I (Ee [_] (dq h hB t (k:=0) hu (by decide)) I call121 Tt ?_)
 rintro y ⟨hbh,hk,hy⟩
 refine Pw (St _ _ (_::HQ.H (y))) ?_
 refine Nk (Al (Ag (Cs I (Lq I (Qe I) (Ak I ?_)))))
 rcases hp3 with e3|e3|e3|e3|e3
 · refine Sv' 12 (.int .i64 0) I (by rw[e3]) (Sb 13 false I (by first|rfl|(rw[e3];rfl)) (Ab I (Cr I (Lq I (Qe I) (Ak I (Sb 13 false I (by first|rfl|(rw[e3];rfl)) (Ab I (Cs I (Lq I (Qe I) (Ak I (Sb 22 false I (by first|rfl|(rw[e3];rfl)) (Ab I (Ae (Aw (Kt (Cs I (Ak I (Af (Pm [2,2,2,2,2] I ?_)))))))))))))))))))
   refine Pm [5,5] I (An I I ?_)
   exact fun _ hh=>⟨y,rfl,⟨hbh,hk,hy⟩,by dsimp only;rw[e3];exact hh⟩
 · refine Sv' 12 (.int .i64 1) I (by rw[e3]) (Sb 13 true I (by first|rfl|(rw[e3];rfl)) (Ai I (Ae (Kt (Ai I (Cr I (Lm I (Lm I (Lc I (Lfa BT I Z3 I (l_e I (AF I I Z3 I I I (by rw[Wr.e6];decide) (Ce ((⟨t,m,2,false,(.pointer none),0⟩:Wr)).c (Wr.set_mid (j:=0) I I I) (Lc I (Lfa BT I Z4 I (l_e I (AF I I Z4 I I I (by rw[Wr.e6];decide) (Ce ((⟨t,m,2,true,(.pointer none),0⟩:Wr)).c (Wr.set_mid (j:=1) I I I) (AB (Aw (Kt (Cs I (Ak I ?_)))))))))))))))))))))))
   refine Af (An I I ?_)
   exact fun _ hh=>⟨y,rfl,⟨hbh,hk,hy⟩,by dsimp only;rw[e3];exact hh⟩
 · refine Sv' 12 (.int .i64 2) I (by rw[e3]) (Sb 13 false I (by first|rfl|(rw[e3];rfl)) (Ab I (Cr I (Lq I (Qe I) (Ak I (Sb 13 true I (by first|rfl|(rw[e3];rfl)) (Ai I (Cr I (Lm I (Lm I (Lc I (Lfa BT I Z3 I (l_e I (AF I I Z3 I I I (by rw[Wr.e6];decide) (Ce ((⟨t,m,2,false,(.pointer none),0⟩:Wr)).c (Wr.set_mid (j:=0) I I I) (Lc I (Lfa BT I Z4 I (l_e I (AF I I Z4 I I I (by rw[Wr.e6];decide) (Ce ((⟨t,m,2,true,(.pointer none),0⟩:Wr)).c (Wr.set_mid (j:=1) I I I) (AB (Aw (Kt ?_)))))))))))))))))))))))
   refine Cs I (Ak I (Af (An I I ?_)))
   exact fun _ hh=>⟨y,rfl,⟨hbh,hk,hy⟩,by dsimp only;rw[e3];exact hh⟩
 · refine Sv' 12 (.int .i64 3) I (by rw[e3]) (Sb 13 false I (by first|rfl|(rw[e3];rfl)) (Ab I (Cr I (Lq I (Qe I) (Ak I (Sb 13 false I (by first|rfl|(rw[e3];rfl)) (Ab I (Cs I (Lq I (Qe I) (Ak I (Sb 22 true I (by first|rfl|(rw[e3];rfl)) (Ai I (Cr I (Lm I (Lm I (Lc I (Lfa BT I Z3 I (l_e I (AF I I Z3 I I I (by rw[Wr.e6];decide) (Ce ((⟨t,m,1,false,(.pointer none),0⟩:Wr)).c (Wr.set_mid (j:=0) I I I) (Lc I (Lfa BT I Z4 I (l_e I ?_)))))))))))))))))))))))
   refine AF I I Z4 I I I (by rw[Wr.e6];decide) (Ce ((⟨t,m,1,true,(.pointer none),0⟩:Wr)).c (Wr.set_mid (j:=1) I I I) (AB (Aw (Kt (Cs I (Ak I (Af (An I I ?_))))))))
   exact fun _ hh=>⟨y,rfl,⟨hbh,hk,hy⟩,by dsimp only;rw[e3];exact hh⟩
 · refine Sv' 12 (.int .i64 4) I (by rw[e3]) (Sb 13 false I (by first|rfl|(rw[e3];rfl)) (Ab I (Cr I (Lq I (Qe I) (Ak I (Sb 13 false I (by first|rfl|(rw[e3];rfl)) (Ab I (Cs I (Lq I (Qe I) (Ak I (Sb 22 false I (by first|rfl|(rw[e3];rfl)) (Ab I (Ae (Aw (Kt (Cs I (Ak I (Af (Pm [2,2,2,2,2] I ?_)))))))))))))))))))
   refine Pm [5,5] I (An I I ?_)
   exact fun _ hh=>⟨y,rfl,⟨hbh,hk,hy⟩,by dsimp only;rw[e3];exact hh⟩
theorem aS (h:x.Ok B) {t:Int} (ht:tkB t=true) (b:Nat) (m:Ms) (sq:Int) (hu:x.s.us[0]?=some true) (hr:Cn (0:Int) x.rd=some t) {bk:Bk} (hb:x.s.bl[0]?=some bk) {nd:Nd} (hd:PW bk.l nd) (hsm:nd.Sm 1000):Con prog 183 [ptV b,ptV x.bh,.int .u64 sq] (fun _=>True) (WRE b (⟨t,m,1,true,(.pointer none),0⟩:Wr)::x.H) (fun y:HQ=>.bool false) (fun y=>y.bh=x.bh/\y.Ok B/\y.hm=x.hm.load 0 nd) (fun y=>WRE b (⟨t,m,2,true,(.pointer none),0⟩:Wr)::y.H):=by
 intro w hE hH
 refine Ey func183 I hH ?_
 refine Cs I (Ak I (Cs I (Lm I (Lm I (Lc I (Lfa BT I Z3 I (Lo G3 0 I (l_e I (Ee [_] (Zk (k:=0) h hu hr hb hd hsm) I call85 Tt ?_)))))))))
 rintro⟨y,v,bo⟩ ⟨hbh,hk,hy⟩
 refine Pw (St _ _ (_::HQ.H (y))) ?_
 refine Nk (Cs I (Lm I (Lc I (Lfa BT I Z3 I (l_e I (AF I I Z3 I I I (by rw[Wr.e6];decide) (Ce ((⟨t,m,2,true,(.pointer none),0⟩:Wr)).c (Wr.set_mid (j:=0) I I I) (Nk (Cs I (Ak I (Af (An I I ?_))))))))))))
 exact fun _ hh=>⟨y,rfl,⟨hbh,hk,hy⟩,hh⟩
theorem aW (h:x.Ok B) {t:Int} (ht:tkB t=true) (b:Nat) (m:Ms) (sq:Int) (hB:B+1<=60000) {i:Nat} (hf:x.q.M.frI 0 2=some i):Con prog 184 [ptV b,ptV x.bh,.int .u64 sq] (fun _=>True) (WRE b (⟨t,m,2,true,(.pointer none),0⟩:Wr)::x.H) (fun y:HQ=>.bool false) (fun y=>y.bh=x.bh/\y.Ok (B+1)/\y.hm=x.hm.take i t true) (fun y=>WRE b (⟨t,m,3,true,(.pointer none),0⟩:Wr)::y.H):=by
 intro w hE hH
 refine Ey func184 I hH ?_
 refine Cs I (Ak I (Cs I (Lm I (Lm I (Lc I (Lfa BT I Z3 I (Lo G3 0 I (l_e I (Ee [_] (xtk h ht hf hB true) I call86 Tt ?_)))))))))
 rintro⟨y,bo⟩ ⟨hbh,hk,hy⟩
 refine Pw (St _ _ (_::HQ.H (y))) ?_
 refine Nk (Cs I (Lm I (Lc I (Lfa BT I Z3 I (l_e I (AF I I Z3 I I I (by rw[Wr.e6];decide) (Ce ((⟨t,m,3,true,(.pointer none),0⟩:Wr)).c (Wr.set_mid (j:=0) I I I) (Nk (Cs I (Ak I (Af (An I I ?_))))))))))))
 exact fun _ hh=>⟨y,rfl,⟨hbh,hk,hy⟩,hh⟩
theorem MJ (h:x.Ok B) {t:Int} (ht:tkB t=true) (b:Nat) (m:Ms) (e:Int) {i:Nat} (hf:x.q.M.frI 0 2=some i) (hh:DH (x.hm.lat i) t=true) (a0:Int) (rm0:Value):Con prog 254 [ptV b,ptV x.bh,.int .i64 e] (fun _=>True) (WRE b (⟨t,m,a0,true,rm0,0⟩:Wr)::x.H) (fun y:HQ=>.tuple #[]) (fun y=>y.bh=x.bh/\y.Ok B/\y.hm=x.hm.leave i t 0) (fun y=>WRE b (⟨t,m,5,false,(.pointer none),e⟩:Wr)::y.H):=by
 intro w hE hH
 refine Ey func254 I hH ?_
 refine Cs I (Lm I (Lm I (Lc I (Lfa BT I Z3 I (Lo G3 0 I (l_e I (Ee [_] (PY h ht hf hh) I call122 Tt ?_)))))))
 rintro⟨y,v⟩ ⟨hbh,hk,hy⟩
 refine Pw (St _ _ (_::HQ.H (y))) ?_
 refine Nk (Cr I (Lm I (Lm I (Lm I (Lm I (Lm I (Lc I (Lfa BT I Z3 I (l_e I (AF I I Z3 I I I (by rw[Wr.e6];decide) (Ce ((⟨t,m,5,true,rm0,0⟩:Wr)).c (Wr.set_mid (j:=0) I I I) (Lc I (Lfa BT I Z4 I (l_e I (AF I I Z4 I I I (by rw[Wr.e6];decide) (Ce ((⟨t,m,5,false,rm0,0⟩:Wr)).c (Wr.set_mid (j:=1) I I I) (Lc I (Lfa BT I Po I (l_e I (AF I I Po I I I (by rw[Wr.e6];decide) (Ce ((⟨t,m,5,false,(.pointer none),0⟩:Wr)).c (Wr.set_mid (j:=2) I I I) (Lc I (Lfa BT I Z44 I ?_)))))))))))))))))))))))
 refine l_e I (AF I I Z44 I I I (by rw[Wr.e6];decide) (Ce ((⟨t,m,5,false,(.pointer none),e⟩:Wr)).c (Wr.set_mid (j:=3) I I I) (AB (Bl (Bv I ?_)))))
 exact fun _ hh=>⟨y,rfl,⟨hbh,hk,hy⟩,hh⟩
theorem Rt {M:Mo} {b:Int} {i:Nat} (h:M.frI b 2=some i) (nd:Nd):(M.setN b nd).2.frI b 2=some i:=by
 obtain⟨h1,h2⟩:=EU h
 have hi:i<M.fr.length:=(gl.1 (C6 h1).choose_spec.1).1
 have hs:(M.setN b nd).2=M.put i {M.at' i with dirty:=true,nd:=nd}:=by unfold Mo.setN Mo.ready;rw[h]
 rw[hs]
 obtain⟨y,hy,hp,hno⟩:=C6 h1
 have hat:M.at' i=y:=by unfold Mo.at';rw[ju,hy];rfl
 have hf:(M.put i {M.at' i with dirty:=true,nd:=nd}).find b=some i:=by
  refine C2 (y:={M.at' i with dirty:=true,nd:=nd}) (jV hi) (by rw[hat];exact hp) (fun z hz=>?_)
  obtain⟨j,hj⟩:=jK.1 hz
  rw[fN] at hj
  split at hj
  · rename_i hlt
    have:(M.fr.set i {M.at' i with dirty:=true,nd:=nd})[j]?=M.fr[j]?:=ku (by omega)
    exact hno j z hlt (this▸hj)
  · cases hj
 unfold Mo.frI
 rw[hf]
 have e:(M.put i {M.at' i with dirty:=true,nd:=nd}).at' i={M.at' i with dirty:=true,nd:=nd}:=by
  unfold Mo.at' Mo.put;rw[ju,jV hi];rfl
 simp only[e]
 rw[fO h2]
theorem dz (t:Int):Con prog 137 [.int .i64 t,.bool true] (fun _=>True) [] (fun br:Nat=>ptV br) (fun _=>True) (fun br=>[RME br t 1 true 0]):=by
 intro w hE hH
 refine E0 func137 I hH ?_
 refine Cs I (Ak I (Cs I (Lm I (Lm I (Lq I (AN (rmC t 1 0 true false true 0) I I (fun w=>by kernel_rfl)) (l_e I (AQ I I I I (fun br=>Ce (rmC t 1 0 true false true 0) I (Ak I (Af (An I I ?_)))))))))))
 exact fun _ h=>⟨br,rfl,trivial,h⟩
theorem VO (h:x.Ok B) {t:Int} (ht:tkB t=true) (b:Nat) (m:Ms) (sq:Int) (hsq:(Lit.int .u64 sq).wf=true) {i:Nat} (hf:x.q.M.frI 0 2=some i) (hlf:(x.q.M.at' i).nd.leaf=true) (hri:B8 (x.q.M.at' i).nd.es) (hri2:B8 (Bu (x.q.M.at' i).nd.es m)) (hwr:(x.hm.lat i).wr=t) (hhs:DH (x.hm.lat i) t=true) (hft:Cd (Cb (x.q.M.at' i).nd (m.e9 sq hsq))=true) (hsm2:(Cb (x.q.M.at' i).nd (m.e9 sq hsq)).Sm 1000):Con prog 185 [ptV b,ptV x.bh,.int .u64 sq] (fun _=>True) (WRE b (⟨t,m,3,true,(.pointer none),0⟩:Wr)::x.H) (fun y:HQ=>.bool true) (fun y=>y.bh=x.bh/\y.Ok B/\y.hm=(x.hm.setN 0 (Cb (x.q.M.at' i).nd (m.e9 sq hsq))).leave i t 0) (fun y=>WRE b (⟨t,m,5,false,(.pointer none),0⟩:Wr)::y.H):=by
 intro w hE hH
 have hi9:=h.latI hf
 obtain⟨l9,hl9⟩:=hi9
 have hsm:((x.q.M.at' i).nd).Sm 1000:=h.q.ok.es _ (by unfold Mo.at';rw[ju];obtain⟨z,hz,_⟩:=C6 (EU hf).1;rw[hz];exact hY hz)
 refine Ey func185 I hH ?_
 refine Cs I (Ak I (Cs I (Lm I (Lc I (Lfa U91 I Z86 I (Lo G86 1 I (l_e I (Ee [_] (Gd h hf) I call116 Tt (fun s _=>Pw (St _ _ (_::_::_::_::_::HQ.H (x))) ?_)))))))))
 refine Lm I (Lq I (Qx I) (Lq I (Qx I) (l_e I (Au I I I zeroValue135 (fun bn=>Ce nv0.c I (l_e I (Ah I I AR I I I (NV.one _) (by show 0+5<=5;decide) (Ay (show Sep.splice _ 0 ((⟨s,(x.q.M.at' i).nd⟩:NV)).c=((⟨s,(x.q.M.at' i).nd⟩:NV)).c from Sep.e7 I) (Ak I (Cs I (Lm I (Lc I (Lfa BT I Bi I (Lq I (Cq ((⟨t,m,3,true,(.pointer none),0⟩:Wr).m.c) Cm Bi 1 I (Wr.m_part _) (Ms.e6 _)) (l_e I (Au I I I zeroValue154 (fun bm=>Ce ms0.c I (l_e I (Ah I I Bi I I (Ms.e6 _) (Ms.one _) (by simp only[Ms.e6];decide) (Ce (Ms.c m) (Sep.e7 (by simp only[Ms.e6])) (Nk (Cs I (Lm I (Lfa B7 I Z41 I (l_e I (AF I I Z41 I I I (by rw[Ms.e6];decide) (Ay (Ms.set_seq m sq hsq) (Nk (Cs I (Lq I (Cq ((⟨s,(x.q.M.at' i).nd⟩:NV).c) Bs AR 1 I (I) (I)) (Lq I (Cq ((m.e9 sq hsq).c) Cm Bi 0 I (Bm _) (Ms.e6 _)) (l_e I (AX (HH (⟨s,(x.q.M.at' i).nd⟩:NV) (m.e9 sq hsq) hlf hri (by show B8 (Bu (x.q.M.at' i).nd.es m);exact hri2) (hsm.mono (by decide))) I I I call253 I (fun _ h=>⟨h.rd 3 rfl,h.rd 4 rfl,h.rd 5 rfl,h.rd 6 rfl⟩) ?_)))))))))))))))))))))))))))))))))
 intro s2 _
 refine Sv' 28 (.tuple #[.agg (⟨⟨s2,s.k,s.p,s.m⟩,Cb (x.q.M.at' i).nd (m.e9 sq hsq)⟩:NV).c.toArray,.bool true]) I (by dsimp only;rw[fO (show Cd (Cb (x.q.M.at' i).nd (m.e9 sq hsq))=true from hft)]) (Lm I (Lq I (Qx I) (Lq I (Qx I) (AV (l_e I (Ah I I AR I I I (NV.one _) (by show 0+5<=5;decide) (Ay (show Sep.splice _ 0 ((⟨⟨s2,s.k,s.p,s.m⟩,Cb (x.q.M.at' i).nd (m.e9 sq hsq)⟩:NV)).c=((⟨⟨s2,s.k,s.p,s.m⟩,Cb (x.q.M.at' i).nd (m.e9 sq hsq)⟩:NV)).c from Sep.e7 I) (Ak I (Ag (Cs I (Lm I (Lq I (Qt I) (Nk (Ab I (Ae (Ks (Do8 (rg 7) 1458 (fun w2=>(WRE b (⟨t,m,3,true,(.pointer none),0⟩:Wr)).at w2/\(Ad bn 135 (⟨⟨s2,s.k,s.p,s.m⟩,Cb (x.q.M.at' i).nd (m.e9 sq hsq)⟩:NV).c).at w2) I St.drawn (H2 3 0 I) (Dm I (Dm I (Dc I (Dfa BT I Z3 I (Dq I (Ao I G3 I (fun _ h=>h.1) I) (Dq I (AP ((⟨⟨s2,s.k,s.p,s.m⟩,Cb (x.q.M.at' i).nd (m.e9 sq hsq)⟩:NV).c) I Bs AR I (fun _ h=>h.2) (I) (I)) ?_)))))))))))))))))))))))
 refine Pm [0,1,2,1] I (d_t I (Ee [_,_,_,_] (aG h ht hf (nv:=(⟨⟨s2,s.k,s.p,s.m⟩,Cb (x.q.M.at' i).nd (m.e9 sq hsq)⟩:NV)) hwr (by show Fk (Cb (x.q.M.at' i).nd (m.e9 sq hsq))=true;unfold Fk;rw[fO (show (Cb (x.q.M.at' i).nd (m.e9 sq hsq)).leaf=true from hlf)];exact hft) hsm2) I call204 Tt ?_))
 rintro y ⟨hbh,hk,hy⟩
 refine Pw (St _ _ (_::_::_::_::_::_::_::_::HQ.H (y))) ?_
 refine AK (Kt (Cs I (Lm I (Lm I (Pm [0,0,0,1,1,1,1] I ?_)))))
 have hf2:y.q.M.frI 0 2=some i:=by rw[show y.q.M=(x.q.M.setN 0 (Cb (x.q.M.at' i).nd (m.e9 sq hsq))).2 from congrArg Hm.M hy];exact Rt hf _
 have hh2:DH (y.hm.lat i) t=true:=by rw[hy];exact hhs
 refine Sv' 52 (ptV y.bh) I (by rw[hbh]) (l_e I (Ee [_,_,_,_,_,_,_] (MJ hk ht b m (0:Int) hf2 hh2 3 (.pointer none)) I call254 Tt ?_))
 rintro z ⟨hbz,hkz,hz⟩
 refine Pw (St _ _ (_::_::_::_::_::_::_::_::HQ.H z)) ?_
 refine Nk (Cs I (Ak I (Af (Av (Av (Av (Av (Av (Av (Av (An I I ?_)))))))))))
 exact fun _ hh=>⟨z,rfl,⟨by rw[hbz,hbh],hkz,by rw[hz,hy]⟩,hh⟩
theorem VP (h:x.Ok B) {t:Int} (ht:tkB t=true) (b:Nat) (m:Ms) (sq:Int) (hsq:(Lit.int .u64 sq).wf=true) {i:Nat} (hf:x.q.M.frI 0 2=some i) (hlf:(x.q.M.at' i).nd.leaf=false) (hri:DV Ms.key (x.q.M.at' i).nd.msgs) (hri2:DV Ms.key (DW (x.q.M.at' i).nd.msgs (m.e9 sq hsq))) (hwr:(x.hm.lat i).wr=t) (hhs:DH (x.hm.lat i) t=true) (hft:GC (CJ (x.q.M.at' i).nd (m.e9 sq hsq))=true) (hsm2:(CJ (x.q.M.at' i).nd (m.e9 sq hsq)).Sm 1000):Con prog 185 [ptV b,ptV x.bh,.int .u64 sq] (fun _=>True) (WRE b (⟨t,m,3,true,(.pointer none),0⟩:Wr)::x.H) (fun y:HQ=>.bool true) (fun y=>y.bh=x.bh/\y.Ok B/\y.hm=(x.hm.setN 0 (CJ (x.q.M.at' i).nd (m.e9 sq hsq))).leave i t 0) (fun y=>WRE b (⟨t,m,5,false,(.pointer none),0⟩:Wr)::y.H):=by
 intro w hE hH
 have hi9:=h.latI hf
 obtain⟨l9,hl9⟩:=hi9
 have hsm:((x.q.M.at' i).nd).Sm 1000:=h.q.ok.es _ (by unfold Mo.at';rw[ju];obtain⟨z,hz,_⟩:=C6 (EU hf).1;rw[hz];exact hY hz)
 refine Ey func185 I hH ?_
 refine Cs I (Ak I (Cs I (Lm I (Lc I (Lfa U91 I Z86 I (Lo G86 1 I (l_e I (Ee [_] (Gd h hf) I call116 Tt (fun s _=>Pw (St _ _ (_::_::_::_::_::HQ.H (x))) ?_)))))))))
 refine Lm I (Lq I (Qx I) (Lq I (Qx I) (l_e I (Au I I I zeroValue135 (fun bn=>Ce nv0.c I (l_e I (Ah I I AR I I I (NV.one _) (by show 0+5<=5;decide) (Ay (show Sep.splice _ 0 ((⟨s,(x.q.M.at' i).nd⟩:NV)).c=((⟨s,(x.q.M.at' i).nd⟩:NV)).c from Sep.e7 I) (Ak I (Cs I (Lm I (Lc I (Lfa BT I Bi I (Lq I (Cq ((⟨t,m,3,true,(.pointer none),0⟩:Wr).m.c) Cm Bi 1 I (Wr.m_part _) (Ms.e6 _)) (l_e I (Au I I I zeroValue154 (fun bm=>Ce ms0.c I (l_e I (Ah I I Bi I I (Ms.e6 _) (Ms.one _) (by simp only[Ms.e6];decide) (Ce (Ms.c m) (Sep.e7 (by simp only[Ms.e6])) (Nk (Cs I (Lm I (Lfa B7 I Z41 I (l_e I (AF I I Z41 I I I (by rw[Ms.e6];decide) (Ay (Ms.set_seq m sq hsq) (Nk (Cs I (Lq I (Cq ((⟨s,(x.q.M.at' i).nd⟩:NV).c) Bs AR 1 I (I) (I)) (Lq I (Cq ((m.e9 sq hsq).c) Cm Bi 0 I (Bm _) (Ms.e6 _)) (l_e I (AX (KV (⟨s,(x.q.M.at' i).nd⟩:NV) (m.e9 sq hsq) hlf hri hri2 (hsm.mono (by decide))) I I I call253 I (fun _ h=>⟨h.rd 3 rfl,h.rd 4 rfl,h.rd 5 rfl,h.rd 6 rfl⟩) ?_)))))))))))))))))))))))))))))))))
 intro s2 _
 refine Sv' 28 (.tuple #[.agg (⟨⟨s.e,s.k,s.p,s2⟩,CJ (x.q.M.at' i).nd (m.e9 sq hsq)⟩:NV).c.toArray,.bool true]) I (by dsimp only;rw[fO (show GC (CJ (x.q.M.at' i).nd (m.e9 sq hsq))=true from hft)]) (Lm I (Lq I (Qx I) (Lq I (Qx I) (AV (l_e I (Ah I I AR I I I (NV.one _) (by show 0+5<=5;decide) (Ay (show Sep.splice _ 0 ((⟨⟨s.e,s.k,s.p,s2⟩,CJ (x.q.M.at' i).nd (m.e9 sq hsq)⟩:NV)).c=((⟨⟨s.e,s.k,s.p,s2⟩,CJ (x.q.M.at' i).nd (m.e9 sq hsq)⟩:NV)).c from Sep.e7 I) (Ak I (Ag (Cs I (Lm I (Lq I (Qt I) (Nk (Ab I (Ae (Ks (Do8 (rg 7) 1458 (fun w2=>(WRE b (⟨t,m,3,true,(.pointer none),0⟩:Wr)).at w2/\(Ad bn 135 (⟨⟨s.e,s.k,s.p,s2⟩,CJ (x.q.M.at' i).nd (m.e9 sq hsq)⟩:NV).c).at w2) I St.drawn (H2 3 0 I) (Dm I (Dm I (Dc I (Dfa BT I Z3 I (Dq I (Ao I G3 I (fun _ h=>h.1) I) (Dq I (AP ((⟨⟨s.e,s.k,s.p,s2⟩,CJ (x.q.M.at' i).nd (m.e9 sq hsq)⟩:NV).c) I Bs AR I (fun _ h=>h.2) (I) (I)) ?_)))))))))))))))))))))))
 refine Pm [0,1,5,1,1,1,1] I (d_t I (Ee [_,_,_,_] (aG h ht hf (nv:=(⟨⟨s.e,s.k,s.p,s2⟩,CJ (x.q.M.at' i).nd (m.e9 sq hsq)⟩:NV)) hwr (by show Fk (CJ (x.q.M.at' i).nd (m.e9 sq hsq))=true;unfold Fk;rw[fR (by show ¬(x.q.M.at' i).nd.leaf=true;rw[hlf];decide)];exact hft) hsm2) I call204 Tt ?_))
 rintro y ⟨hbh,hk,hy⟩
 refine Pw (St _ _ (_::_::_::_::_::_::_::_::HQ.H (y))) ?_
 refine AK (Kt (Cs I (Lm I (Lm I (Pm [0,0,0,1,1,1,1] I ?_)))))
 have hf2:y.q.M.frI 0 2=some i:=by rw[show y.q.M=(x.q.M.setN 0 (CJ (x.q.M.at' i).nd (m.e9 sq hsq))).2 from congrArg Hm.M hy];exact Rt hf _
 have hh2:DH (y.hm.lat i) t=true:=by rw[hy];exact hhs
 refine Sv' 52 (ptV y.bh) I (by rw[hbh]) (l_e I (Ee [_,_,_,_,_,_,_] (MJ hk ht b m (0:Int) hf2 hh2 3 (.pointer none)) I call254 Tt ?_))
 rintro z ⟨hbz,hkz,hz⟩
 refine Pw (St _ _ (_::_::_::_::_::_::_::_::HQ.H z)) ?_
 refine Nk (Cs I (Ak I (Af (Av (Av (Av (Av (Av (Av (Av (An I I ?_)))))))))))
 exact fun _ hh=>⟨z,rfl,⟨by rw[hbz,hbh],hkz,by rw[hz,hy]⟩,hh⟩
theorem VQ (h:x.Ok B) {t:Int} (b:Nat) (m:Ms) (sq:Int) (hsq:(Lit.int .u64 sq).wf=true) {i:Nat} (hf:x.q.M.frI 0 2=some i) (hlf:(x.q.M.at' i).nd.leaf=true) (hri:B8 (x.q.M.at' i).nd.es) (hri2:B8 (Bu (x.q.M.at' i).nd.es m)) (hft:Cd (Cb (x.q.M.at' i).nd (m.e9 sq hsq))=false):Con prog 185 [ptV b,ptV x.bh,.int .u64 sq] (fun _=>True) (WRE b (⟨t,m,3,true,(.pointer none),0⟩:Wr)::x.H) (fun br:Nat=>.bool false) (fun _=>True) (fun br=>RME br t 1 true 0::WRE b (⟨t,m,4,true,(ptV br),0⟩:Wr)::x.H):=by
 intro w hE hH
 have hi9:=h.latI hf
 obtain⟨l9,hl9⟩:=hi9
 have hsm:((x.q.M.at' i).nd).Sm 1000:=h.q.ok.es _ (by unfold Mo.at';rw[ju];obtain⟨z,hz,_⟩:=C6 (EU hf).1;rw[hz];exact hY hz)
 refine Ey func185 I hH ?_
 refine Cs I (Ak I (Cs I (Lm I (Lc I (Lfa U91 I Z86 I (Lo G86 1 I (l_e I (Ee [_] (Gd h hf) I call116 Tt (fun s _=>Pw (St _ _ (_::_::_::_::_::HQ.H (x))) ?_)))))))))
 refine Lm I (Lq I (Qx I) (Lq I (Qx I) (l_e I (Au I I I zeroValue135 (fun bn=>Ce nv0.c I (l_e I (Ah I I AR I I I (NV.one _) (by show 0+5<=5;decide) (Ay (show Sep.splice _ 0 ((⟨s,(x.q.M.at' i).nd⟩:NV)).c=((⟨s,(x.q.M.at' i).nd⟩:NV)).c from Sep.e7 I) (Ak I (Cs I (Lm I (Lc I (Lfa BT I Bi I (Lq I (Cq ((⟨t,m,3,true,(.pointer none),0⟩:Wr).m.c) Cm Bi 1 I (Wr.m_part _) (Ms.e6 _)) (l_e I (Au I I I zeroValue154 (fun bm=>Ce ms0.c I (l_e I (Ah I I Bi I I (Ms.e6 _) (Ms.one _) (by simp only[Ms.e6];decide) (Ce (Ms.c m) (Sep.e7 (by simp only[Ms.e6])) (Nk (Cs I (Lm I (Lfa B7 I Z41 I (l_e I (AF I I Z41 I I I (by rw[Ms.e6];decide) (Ay (Ms.set_seq m sq hsq) (Nk (Cs I (Lq I (Cq ((⟨s,(x.q.M.at' i).nd⟩:NV).c) Bs AR 1 I (I) (I)) (Lq I (Cq ((m.e9 sq hsq).c) Cm Bi 0 I (Bm _) (Ms.e6 _)) (l_e I (AX (HH (⟨s,(x.q.M.at' i).nd⟩:NV) (m.e9 sq hsq) hlf hri (by show B8 (Bu (x.q.M.at' i).nd.es m);exact hri2) (hsm.mono (by decide))) I I I call253 I (fun _ h=>⟨h.rd 3 rfl,h.rd 4 rfl,h.rd 5 rfl,h.rd 6 rfl⟩) ?_)))))))))))))))))))))))))))))))))
 intro s2 _
 refine Sv' 28 (.tuple #[.agg (⟨s,(x.q.M.at' i).nd⟩:NV).c.toArray,.bool false]) I (by dsimp only;rw[fR (show ¬Cd (Cb (x.q.M.at' i).nd (m.e9 sq hsq))=true from by rw[hft];decide)]) (Lm I (Lq I (Qx I) (Lq I (Qx I) (AV (l_e I (Ah I I AR I I I (NV.one _) (by show 0+5<=5;decide) (Ay (show Sep.splice _ 0 ((⟨s,(x.q.M.at' i).nd⟩:NV)).c=((⟨s,(x.q.M.at' i).nd⟩:NV)).c from Sep.e7 I) (Ak I (Ag (Cs I (Lm I (Lq I (Qt I) (Nk (Ai I (Cs I (Lm I (Lm I (Lm I (Lc I (Lfa BT I Z3 I (Lo G3 3 I (l_e I (AX (dz t) I I I call137 I Tt (fun br _=>Lc I (Lfa BT I Z3 I (CY (l_e I (AF I I Z3 I I I (by rw[Wr.e6];decide) (Ce ((⟨t,m,4,true,(.pointer none),0⟩:Wr)).c (Wr.set_mid (j:=0) I I I) (Lc I (Lfa BT I Po I (l_e I (AF I I Po I I I (by rw[Wr.e6];decide) (Ce ((⟨t,m,4,true,(ptV br),0⟩:Wr)).c (Wr.set_mid (j:=2) I I I) (Nk (Cs I (Ak I (Af (Aa (Pm [1,0,7,7,7,7,7,7] I ?_))))))))))))))))))))))))))))))))))))))))
 refine Pm [8,9,8,8,8,8,8] I (Av (Av (Av (Av (Av (Av (Av (An I I ?_))))))))
 exact fun _ hh=>⟨br,rfl,trivial,hh⟩
section
variable {n:Nat} {L:Env} {X:World->Prop}
theorem eD {α γ δ ε ζ η:Type} {F G:Act->World->Prop} (Lv:α->β->γ->δ->ε->ζ->η->Env) (Xv:α->β->γ->δ->ε->ζ->η->World->Prop) (h1:(∀a b c d e f g,Pre n (Lv a b c d e f g) (Xv a b c d e f g) G)->Pre n L X F) (h2:∀a b c d e f g,Pre n (Lv a b c d e f g) (Xv a b c d e f g) G):Pre n L X F:=h1 h2
end
section
variable {P:Program} {n:Nat} {L:Env} {X:World->Prop} {Q:Exit->Act->World->Prop} {S:World->Prop} {l:List Oper} {listed:Array Bool} {k:Nat}
theorem aX {o1 o2 o3 o4:Oper} (i1 i2 i3 i4:Nat) (hr:Region.ready .any l.toArray listed=[i1,i2,i3,i4]) (h1:l[i1]?=some o1) (h2:l[i2]?=some o2) (h3:l[i3]?=some o3) (h4:l[i4]?=some o4) (w1:Cf l.toArray L o1=some true) (w2:Cf l.toArray L o2=some true) (w3:Cf l.toArray L o3=some true) (w4:Cf l.toArray L o4=some true)
 (g1:EOp P n L X o1 Q (EK P l Q S k listed i1)) (g2:EOp P n L X o2 Q (EK P l Q S k listed i2)) (g3:EOp P n L X o3 Q (EK P l Q S k listed i3)) (g4:EOp P n L X o4 Q (EK P l Q S k listed i4)):Pre n L X (wpAnyH P .any l.toArray Q S (k+1) listed):=fun a w kn x =>
 wpAnyH_all hr (by simp) (fun j hj=>by
  simp only[fq,iH,iI] at hj
  rcases hj with rfl|rfl|rfl|rfl
  · exact KK h1 w1 g1 a w kn x
  · exact KK h2 w2 g2 a w kn x
  · exact KK h3 w3 g3 a w kn x
  · exact KK h4 w4 g4 a w kn x)
end
section
variable {P:Program} {n:Nat} {L:Env} {o:Oper} {Q:Exit->Act->World->Prop} {K:Act->World->Prop} {w0:World} {D:List Nat}
theorem BV {v:β->Value} {p:β->Prop} {E:World->Prop} {F:List Ent} {HB:β->List Ent} {f:FuncId} {xs:List Operand} {ts:Array TypeId} {d:Nat} {vs:List Value} (s:Con P f vs E [] v p HB) (ho:o.op=.call ⟨.value (.func f),xs.toArray,ts⟩) (hd:o.dst=some d) (hn:d.blt n=true)
 (hc:∀us w,(callFunc f us).run P w=.ok (.enter f us) w) (hv:evs L xs=some vs) (hE:∀w,St w0 D F w->E w) (h:∀b,p b->Pre n ((d,v b)::L) (St w0 D (HB b++F)) K):EOp P n L (St w0 D F) o Q K :=
 Dw ho hd hn hc hv (fun w x=>s.frame (F:=F) x (hE w x)) h
end
theorem Ym (br:Nat) (t a0:Int) (vh:Value):Con prog 206 [ptV br,vh] (fun _=>True) [Ad br 249 (rmC t a0 0 true false true 0)] (fun _:Unit=>.tuple #[]) (fun _=>True) (fun _=>[Ad br 249 (rmC t a0 0 false false true 0)]):=by
 intro w hE hH
 refine Ey func206 I hH ?_
 refine Cs I (Lm I (Lc I (Lfa Dp I Z4 I (l_e I (AF I I Z4 I I I (iy I) (Ce (rmC t a0 0 false false true 0) I (Ns (Cs I (Lm I (Lc I (Lfa Dp I Z3 I (Lo G3 0 I (Lq I (Qe I) (Nk (Sb 11 true I (I) (Ai I (Ag (Cs I (Lm I (Lc I (Lfa Dp I Z4 I (Lo G4 0 I (Nk ?_)))))))))))))))))))))))
 refine Ai I (Af (Aa (Aa (Bv I ?_))))
 exact fun _ h=>⟨(),rfl,trivial,h⟩
theorem Zm (br:Nat) (t a0 e:Int) (vh:Value):Con prog 201 [ptV br,vh,.int .i64 e] (fun _=>True) [Ad br 249 (rmC t a0 0 true false true 0)] (fun _:Unit=>.tuple #[]) (fun _=>True) (fun _=>[Ad br 249 (rmC t 11 0 false false true e)]):=by
 intro w hE hH
 refine Ey func201 I hH ?_
 refine Cs I (Lm I (Lm I (l_e I (Bg (Ym br t a0 vh) I I I call206 I Tt (fun _ _=>Nk (Cr I (Lm I (Lm I (Lm I (Lc I (Lfa Dp I Z3 I (l_e I (AF I I Z3 I I I (iy I) (Ce (rmC t 11 0 false false true 0) I (Lc I (Lfa Dp I Z44 I (l_e I (AF I I Z44 I I I (iy I) (Ce (rmC t 11 0 false false true e) I (AB (Bl (Bv I ?_))))))))))))))))))))))
 exact fun _ h=>⟨(),rfl,trivial,h⟩
theorem VR (br:Nat) (t:Int) (vh:Value) (nv:NV) (hlf:nv.d.leaf=true) (hlen:2<=nv.s.e.n):Con prog 138 [ptV br,vh,.agg nv.c.toArray] (fun _=>True) [Ad br 249 (rmC t 1 0 true false true 0)] (fun _:Unit=>.tuple #[]) (fun _=>True) (fun _=>[Ad br 249 (rmC t 6 0 true false true 0)]):=by
 intro w hE hH
 refine Ey func138 I hH ?_
 refine Cs I (l_e I (AQ I I I I (fun bn=>Ce nv.c I (Nk (Cs I (Lq I (Cq (nv.c) Bs AR 0 I (I) (I)) (l_e I (E1 (J9 nv hlf) I call200 Tt (fun _ _=>Ak I (Al (Cs I (Lm I (Lc I (Lfa Dp I Z3 I (Lo G3 1 I (Lq I (Qe I) (Lm I (Sb 26 true I (by first|rfl|exact hlf|(exact jo (by omega))|(simp only[im];omega)) (Lfa CT I Z4 I (Lo G4 0 I (Lq I (Qy I) (Lm I (Sb 30 true I (hlf) (Lfa CT I Z49 I (Lo G49 0 I (Lq I (Ew I U49 I) (Lq I (Ql I) (Lq I (Qy I) (Ak I (Sb 20 false I (by first|rfl|exact hlf|(exact jo (by omega))|(simp only[im];omega)) (Ab I (Cs I ?_))))))))))))))))))))))))))))))))
 refine Lm I (Lc I (Lfa Dp I Z3 I (Lo G3 1 I (Lq I (Qe I) (Lm I (Sb 45 true I (by first|rfl|exact hlf|(exact jo (by omega))|(simp only[im];omega)) (Lfa CT I Z4 I (Lo G4 0 I (Lm I (Sb 48 true I (hlf) (Lx I (Lx I (Lx I (Lx I (Lq I (Qy I) (Lq I (Qy I) (Ak I (Ai I (Cr I (Lm I (Lc I (Lfa Dp I Z3 I (AM ?_)))))))))))))))))))))))
 refine l_e I (AF I I Z3 I I I (iy I) (Ce (rmC t 6 0 true false true 0) I (AB (Aw (Bl (AM (Av (Bv I ?_))))))))
 exact fun _ h=>⟨(),rfl,trivial,h⟩
theorem Ru (h:x.Ok B) {t:Int} (ht:tkB t=true) (br:Nat) (a0 to:Int) (hB:B+1<=60000) (hcy:(x.hm.claim t).1=true):Con prog 140 [ptV br,ptV x.bh,.int .i64 to] (fun _=>True) (Ad br 249 (rmC t a0 0 true false true 0)::x.H) (fun y:HQ=>.tuple #[]) (fun y=>y.bh=x.bh/\y.Ok (B+1)/\y.hm=(x.hm.claim t).2) (fun y=>Ad br 249 (rmC t to 0 true false true 0)::y.H):=by
 intro w hE hH
 refine Ey func140 I hH ?_
 refine Ag (Do8 (rg 9) 13122 (fun w2=>(Ad br 249 (rmC t a0 0 true false true 0)).at w2/\(Ad x.bh 91 x.cells).at w2) I St.drawn (H2 0 1 I) (Dm I (Dc I (Dfa U91 I Z86 I (Dq I (Ao I G86 I (fun _ h=>h.2) I) (Dm I (Dc I (Dfa Dp I Z3 I (Dq I (Ao I G3 I (fun _ h=>h.1) I) (d_t I (Ee [_] (aI h hB t) I call207 Tt ?_)))))))))))
 rintro y ⟨hbh,hbc,hk,hy⟩
 refine Pw (St _ _ (_::HQ.H (y))) ?_
 refine Sv' 14 (.bool true) I (by rw[hcy]) (AK (Kt (Ai I (Cr I (Lm I (Lm I (Lc I (Lfa Dp I Z3 I (l_e I (AF I I Z3 I I I (iy I) (Ce (rmC t to 0 true false true 0) I (AB (Bl (Bv I ?_))))))))))))))
 exact fun _ hh=>⟨y,rfl,⟨hbh,hk,hy⟩,hh⟩
theorem Tf (h:x.Ok B) {t:Int} (ht:tkB t=true) (br:Nat) (a0:Int) (nv:NV) (hcl:2<=x.q.M.claims t) (hls:x.s.left<2):Con prog 142 [ptV br,ptV x.bh,.agg nv.c.toArray] (fun _=>True) (Ad br 249 (rmC t a0 0 true false true 0)::x.H) (fun y:HQ=>.tuple #[]) (fun y=>y.bh=x.bh/\y.Ok B/\y.hm=x.hm.give t) (fun y=>Ad br 249 (rmC t 11 0 false false true 3)::y.H):=by
 intro w hE hH
 refine Ey func142 I hH ?_
 refine Cs I (l_e I (AQ I I I I (fun bn=>Ce nv.c I (Nk (Cs I (Lm I (Lm I (Lc I (Lfa Dp I Z3 I (Lo G3 1 I (l_e I (Ee [_,_] (Tc h ht (n:=2) (by decide) (by decide) hcl hls) I call208 Tt ?_))))))))))))
 rintro y ⟨hbh,hk,hy⟩
 refine Pw (St _ _ (_::_::HQ.H (y))) ?_
 refine Lm I (Lq I (Qx I) (Lq I (Qx I) (Las I (Ak I (Ag (Cs I (Lm I (Lq I (Qt I) (Nk (Ai I (Cs I (Lm I (Lm I (Pm [1] I (l_e I (Bg (Zm br t a0 3 _) I I I call201 I Tt (fun _ _=>Nk (Af (Aa (AM (Av (Bv I ?_))))))))))))))))))))))
 exact fun _ hh=>⟨y,rfl,⟨hbh,hk,hy⟩,hh⟩
end Go.Proofs.YtloldofjddbjoaaGreat
namespace Go.Proofs.YtloldofjddbjoaaGreat
open Go.Sep Go.RowKit Tryz
variable {x:HQ} {B nx n i B2:Nat} {t a0 a1 e:Int} {L:Env} {F:Act->World->Prop} {H':List Ent} {hs en:Bool} {m:Hm}
def pkL (H:List Ent):List Nat->List Ent->Option (List Ent)
 |[],r=>some r
 |i::is,r=>match H[i]? with
  |some x=>match pkL H is r with
   |some l=>some (x::l)
   |none=>none
  |none=>none
theorem pkE {H:List Ent}:∀{is:List Nat} {r l:List Ent},pkL H is r=some l->l=is.filterMap (fun i=>H[i]?)++r
 |[],r,l,h=>by cases h;rfl
 |i::is,r,l,h=>by
  unfold pkL at h
  cases hx:H[i]? with
  |none=>rw[hx] at h;cases h
  |some x =>
   rw[hx] at h
   dsimp only at h
   cases hr:pkL H is r with
   |none=>rw[hr] at h;cases h
   |some q =>
    rw[hr] at h
    cases h
    rw[List.filterMap_cons,hx,pkE hr];rfl
theorem tkF (H:List Ent):∀n,(List.range n).filterMap (fun i=>H[i]?)=H.take n
 |0=>rfl
 |n+1=>by
  rw[jM,List.filterMap_append,tkF H n,jd]
  cases h:H[n]? with
  |none=>simp[h]
  |some x=>simp[h]
theorem Pnn {w0:World} {D:List Nat} {H:List Ent} (k:Nat) (is:List Nat) (h1:(is.isPerm (List.range k),pkL H is (H.drop k))=(true,some H')) (h:Pre n L (St w0 D H') F):Pre n L (St w0 D H) F:=by
 simp only[Prod.mk.injEq] at h1
 refine h.world _ (fun _ s=>s.perm ?_)
 rw[pkE h1.2]
 have e:H=(List.range k).filterMap (fun i=>H[i]?)++H.drop k:=by rw[tkF,gP]
 exact (List.Perm.of_eq e).trans ((((List.isPerm_iff.1 h1.1).symm).filterMap _).append_right _)
theorem Pzz {L':Env} {X:World->Prop} (h:Pre n L' X F) (s:L'.map (fun p=>Sep.look L p.1)=L'.map (fun p=>some p.2)):Pre n L X F:=Pre.sub _ (Si s) h
theorem P3 {x:HQ} {B:Nat} (h:x.Ok B) {t:Int} (ht:tkB t=true) (br:Nat) (a0:Int) (nv:NV) (hlf:nv.d.leaf=true) (hbd:∀e∈nv.d.es,e.Bd) (h2l:2<=nv.d.es.length) (hpos:0<lby nv.d.es) (hn3:nv.d.es.length<=30000) (hcl:2<=x.q.M.claims t) (hls:2<=x.s.left) (hal:∀j,j<2->∃k,(x.s.al j).2.fr=some k) {ka kb:Nat} (hal2:(x.s.al 2).1=[ka,kb]) (hne:ka≠kb) (hia:idB ka=true) (hib:idB kb=true) (hua:(x.s.al 2).2.us[ka]?=some true) (hub:(x.s.al 2).2.us[kb]?=some true) {i:Nat} (hf:x.q.M.frI 0 2=some i) (hwr:(x.hm.lat i).wr=t) (hfr:Fk ⟨false,[],[(ka:Int),(kb:Int)],[(nv.d.es.getD (spl nv.d.es) en0).key],[]⟩=true) (hsr:(⟨false,[],[(ka:Int),(kb:Int)],[(nv.d.es.getD (spl nv.d.es) en0).key],[]⟩:Nd).Sm 1000) (hfx:Fk (lfN (nv.d.es.take (spl nv.d.es)))=true) (hsx:(lfN (nv.d.es.take (spl nv.d.es))).Sm 1000) (hfy:Fk (lfN (nv.d.es.drop (spl nv.d.es)))=true) (hsy:(lfN (nv.d.es.drop (spl nv.d.es))).Sm 1000):Con prog 142 [ptV br,ptV x.bh,.agg nv.c.toArray] (fun _=>True) (Bp nv.s.e nv.d.es::CG nv.s.k nv.d.kids::CH nv.s.p nv.d.piv::EN nv.s.m nv.d.msgs::Ad br 249 (rmC t a0 0 true false true 0)::x.H) (fun y:HQ=>.tuple #[]) (fun y=>y.bh=x.bh/\y.Ok B/\y.hm=((({x.hm with s:=(x.s.al 2).2}:Hm).setN 0 ⟨false,[],[(ka:Int),(kb:Int)],[(nv.d.es.getD (spl nv.d.es) en0).key],[]⟩).name t ka (lfN (nv.d.es.take (spl nv.d.es)))).name t kb (lfN (nv.d.es.drop (spl nv.d.es)))) (fun y=>Ad br 249 (rmC t 11 0 false false true 0)::y.H):=by
 intro w hE hH
 have hl2:nI2 (x.s.al 2).1=[(ka:Int),(kb:Int)]:=by rw[hal2];rfl
 refine Ey func142 I hH ?_
 refine Cs I (l_e I (AQ I I I I (fun bn=>Ce nv.c I (Nk (Cs I (Lm I (Lm I (Lc I (Lfa Dp I Z3 I (Lo G3 5 I (l_e I (Ee [_,_,_,_,_,_] (PZ h ht (n:=2) (by decide) (by decide) hcl hls hal) I call208 Tt ?_))))))))))))
 rintro⟨vl,y⟩ ⟨hbh,hk,hy⟩
 refine Pw (St _ _ (_::_::_::_::_::_::_::HQ.H (y))) ?_
 refine Lm I (Lq I (Qx I) (Lq I (Qx I) (Las I (Ak I (Ag (Cs I (Lm I (Lq I (Qt I) (Nk (Ab I (Ae (Ks (Ag ?_)))))))))))))
 dsimp only at hbh hk hy
 have hln:(nI2 (x.s.al 2).1).length=2:=by rw[hl2];rfl
 refine Pm [6] I (EZ (fun w2=>(Ad bn 135 nv.c).at w2/\RdV w2 vl (AG .i64) (nI2 (x.s.al 2).1)) I St.drawn (Aq 0 I (fun _ h=>⟨h.at 1 rfl,h.rd 0 rfl⟩) (AP (nv.c) I Bs AR I (fun _ h=>h.1) (I) (I)) (Aq 1 I (fun _ h=>⟨h.at 1 rfl,h.rd 0 rfl⟩) (A0 I I) (Aq 2 I (fun _ h=>⟨h.at 1 rfl,h.rd 0 rfl⟩) (As 0 I U22 Z3 I (fun _ h=>h.2) I I (by omega)) (Aq 3 I (fun _ h=>⟨h.at 1 rfl,h.rd 0 rfl⟩) (AI 0 0 I G3 I I (fun _ h=>h.2) (show (nI2 (x.s.al 2).1)[0]?=some (ka:Int) by rw[hl2];rfl) I) (Aq 4 I (fun _ h=>⟨h.at 1 rfl,h.rd 0 rfl⟩) (A0 I I) (Aq 5 I (fun _ h=>⟨h.at 1 rfl,h.rd 0 rfl⟩) (As 1 I U22 Z3 I (fun _ h=>h.2) I I (by omega)) (Aq 6 I (fun _ h=>⟨h.at 1 rfl,h.rd 0 rfl⟩) (AI 1 0 I G3 I I (fun _ h=>h.2) (show (nI2 (x.s.al 2).1)[1]?=some (kb:Int) by rw[hl2];rfl) I) ?_))))))))
 with_reducible apply eD (fun (s1 s2 s3 s4:Sv) (b8 b9 b10:Nat)=>[(0,ptV br),(1,ptV x.bh),(6,vl),(8,.pointer (some ⟨b8,0,none⟩)),(9,.pointer (some ⟨b9,0,none⟩)),(10,.pointer (some ⟨b10,0,none⟩)),(35,.agg (⟨⟨sv0,s3,s4,sv0⟩,⟨false,[],[(ka:Int),(kb:Int)],[(nv.d.es.getD (spl nv.d.es) en0).key],[]⟩⟩:NV).c.toArray),(36,.agg (lfV s1 (nv.d.es.take (spl nv.d.es))).c.toArray),(37,.agg (lfV s2 (nv.d.es.drop (spl nv.d.es))).c.toArray),(38,.bool true)]) (fun (s1 s2 s3 s4:Sv) (b8 b9 b10:Nat)=>St w (dom (Bp nv.s.e nv.d.es::CG nv.s.k nv.d.kids::CH nv.s.p nv.d.piv::EN nv.s.m nv.d.msgs::Ad br 249 (rmC t a0 0 true false true 0)::x.H)) (Bp s1 (nv.d.es.take (spl nv.d.es))::Bp s2 (nv.d.es.drop (spl nv.d.es))::CG s3 [(ka:Int),(kb:Int)]::CH s4 [(nv.d.es.getD (spl nv.d.es) en0).key]::Ad b8 135 nv0.c::Ad b9 135 nv0.c::Ad b10 135 nv0.c::Az vl 3 (AG .i64) (nI2 (x.s.al 2).1)::Ad bn 135 nv.c::Bp nv.s.e nv.d.es::CG nv.s.k nv.d.kids::CH nv.s.p nv.d.piv::EN nv.s.m nv.d.msgs::Ad br 249 (rmC t a0 0 true false true 0)::HQ.H y))
 · intro K
   refine aX 7 13 14 15 (by kernel_rfl) I I I I I I I I ?_ ?_ ?_ ?_
   · refine BV (BB nv hlf (ka:Int) (kb:Int) (by omega) hia hib hbd h2l hpos hn3) I I I call212 I (fun w2 h2=>⟨h2.rd 2 rfl,h2.rd 3 rfl,h2.rd 4 rfl,h2.rd 5 rfl⟩) ?_
     rintro⟨s1,s2,s3,s4⟩ _
     refine Pw (St _ _ (Bp s1 (nv.d.es.take (spl nv.d.es))::Bp s2 (nv.d.es.drop (spl nv.d.es))::CG s3 [(ka:Int),(kb:Int)]::CH s4 [(nv.d.es.getD (spl nv.d.es) en0).key]::_)) ?_
     refine Aj (fun _ h=>⟨h.at 5 rfl,h.rd 4 rfl⟩) (Aq 8 I (fun _ h=>⟨h.at 5 rfl,h.rd 4 rfl⟩) (A0 I I) (Aq 9 I (fun _ h=>⟨h.at 5 rfl,h.rd 4 rfl⟩) (Qx I) (Aq 10 I (fun _ h=>⟨h.at 5 rfl,h.rd 4 rfl⟩) (Qx I) (Aq 11 I (fun _ h=>⟨h.at 5 rfl,h.rd 4 rfl⟩) (Qx I) (Aq 12 I (fun _ h=>⟨h.at 5 rfl,h.rd 4 rfl⟩) (Qx I) ?_)))))
     refine H5 13 14 15 (by kernel_rfl) I I I I I I ?_ ?_ ?_
     · refine Au I I I zeroValue135 (fun b8=>Ce nv0.c I (Aj (fun _ h=>⟨h.at 6 rfl,h.rd 5 rfl⟩) ?_))
       refine BK 14 15 (by kernel_rfl) I I I I ?_ ?_
       · refine Au I I I zeroValue135 (fun b9=>Ce nv0.c I (Aj (fun _ h=>⟨h.at 7 rfl,h.rd 6 rfl⟩) (AH 15 (by kernel_rfl) I I (Au I I I zeroValue135 (fun b10=>Ce nv0.c I (Aj (fun _ h=>⟨h.at 8 rfl,h.rd 7 rfl⟩) (Pm [3,3,3,3,2,1] I ?_)))))))
         exact Pzz (K s1 s2 s3 s4 b8 b9 b10) I
       · refine Au I I I zeroValue135 (fun b10=>Ce nv0.c I (Aj (fun _ h=>⟨h.at 7 rfl,h.rd 6 rfl⟩) (AH 14 (by kernel_rfl) I I (Au I I I zeroValue135 (fun b9=>Ce nv0.c I (Aj (fun _ h=>⟨h.at 8 rfl,h.rd 7 rfl⟩) (Pm [3,3,3,3,2] I ?_)))))))
         exact Pzz (K s1 s2 s3 s4 b8 b9 b10) I
     · refine Au I I I zeroValue135 (fun b9=>Ce nv0.c I (Aj (fun _ h=>⟨h.at 6 rfl,h.rd 5 rfl⟩) ?_))
       refine BK 13 15 (by kernel_rfl) I I I I ?_ ?_
       · refine Au I I I zeroValue135 (fun b8=>Ce nv0.c I (Aj (fun _ h=>⟨h.at 7 rfl,h.rd 6 rfl⟩) (AH 15 (by kernel_rfl) I I (Au I I I zeroValue135 (fun b10=>Ce nv0.c I (Aj (fun _ h=>⟨h.at 8 rfl,h.rd 7 rfl⟩) (Pm [3,3,3,3,1,1] I ?_)))))))
         exact Pzz (K s1 s2 s3 s4 b8 b9 b10) I
       · refine Au I I I zeroValue135 (fun b10=>Ce nv0.c I (Aj (fun _ h=>⟨h.at 7 rfl,h.rd 6 rfl⟩) (AH 13 (by kernel_rfl) I I (Au I I I zeroValue135 (fun b8=>Ce nv0.c I (Aj (fun _ h=>⟨h.at 8 rfl,h.rd 7 rfl⟩) (Pm [3,3,3,3,0,1] I ?_)))))))
         exact Pzz (K s1 s2 s3 s4 b8 b9 b10) I
     · refine Au I I I zeroValue135 (fun b10=>Ce nv0.c I (Aj (fun _ h=>⟨h.at 6 rfl,h.rd 5 rfl⟩) ?_))
       refine BK 13 14 (by kernel_rfl) I I I I ?_ ?_
       · refine Au I I I zeroValue135 (fun b8=>Ce nv0.c I (Aj (fun _ h=>⟨h.at 7 rfl,h.rd 6 rfl⟩) (AH 14 (by kernel_rfl) I I (Au I I I zeroValue135 (fun b9=>Ce nv0.c I (Aj (fun _ h=>⟨h.at 8 rfl,h.rd 7 rfl⟩) (Pm [3,3,3,3,1] I ?_)))))))
         exact Pzz (K s1 s2 s3 s4 b8 b9 b10) I
       · refine Au I I I zeroValue135 (fun b9=>Ce nv0.c I (Aj (fun _ h=>⟨h.at 7 rfl,h.rd 6 rfl⟩) (AH 13 (by kernel_rfl) I I (Au I I I zeroValue135 (fun b8=>Ce nv0.c I (Aj (fun _ h=>⟨h.at 8 rfl,h.rd 7 rfl⟩) (Pm [3,3,3,3] I ?_)))))))
         exact Pzz (K s1 s2 s3 s4 b8 b9 b10) I
   · refine Au I I I zeroValue135 (fun b8=>Ce nv0.c I (Aj (fun _ h=>⟨h.at 2 rfl,h.rd 1 rfl⟩) ?_))
     refine H5 7 14 15 (by kernel_rfl) I I I I I I ?_ ?_ ?_
     · refine BV (BB nv hlf (ka:Int) (kb:Int) (by omega) hia hib hbd h2l hpos hn3) I I I call212 I (fun w2 h2=>⟨h2.rd 3 rfl,h2.rd 4 rfl,h2.rd 5 rfl,h2.rd 6 rfl⟩) ?_
       rintro⟨s1,s2,s3,s4⟩ _
       refine Pw (St _ _ (Bp s1 (nv.d.es.take (spl nv.d.es))::Bp s2 (nv.d.es.drop (spl nv.d.es))::CG s3 [(ka:Int),(kb:Int)]::CH s4 [(nv.d.es.getD (spl nv.d.es) en0).key]::_)) ?_
       refine Aj (fun _ h=>⟨h.at 6 rfl,h.rd 5 rfl⟩) (Aq 8 I (fun _ h=>⟨h.at 6 rfl,h.rd 5 rfl⟩) (A0 I I) (Aq 9 I (fun _ h=>⟨h.at 6 rfl,h.rd 5 rfl⟩) (Qx I) (Aq 10 I (fun _ h=>⟨h.at 6 rfl,h.rd 5 rfl⟩) (Qx I) (Aq 11 I (fun _ h=>⟨h.at 6 rfl,h.rd 5 rfl⟩) (Qx I) (Aq 12 I (fun _ h=>⟨h.at 6 rfl,h.rd 5 rfl⟩) (Qx I) ?_)))))
       refine BK 14 15 (by kernel_rfl) I I I I ?_ ?_
       · refine Au I I I zeroValue135 (fun b9=>Ce nv0.c I (Aj (fun _ h=>⟨h.at 7 rfl,h.rd 6 rfl⟩) (AH 15 (by kernel_rfl) I I (Au I I I zeroValue135 (fun b10=>Ce nv0.c I (Aj (fun _ h=>⟨h.at 8 rfl,h.rd 7 rfl⟩) (Pm [2,2,2,2,2,1] I ?_)))))))
         exact Pzz (K s1 s2 s3 s4 b8 b9 b10) I
       · refine Au I I I zeroValue135 (fun b10=>Ce nv0.c I (Aj (fun _ h=>⟨h.at 7 rfl,h.rd 6 rfl⟩) (AH 14 (by kernel_rfl) I I (Au I I I zeroValue135 (fun b9=>Ce nv0.c I (Aj (fun _ h=>⟨h.at 8 rfl,h.rd 7 rfl⟩) (Pm [2,2,2,2,2] I ?_)))))))
         exact Pzz (K s1 s2 s3 s4 b8 b9 b10) I
     · refine Au I I I zeroValue135 (fun b9=>Ce nv0.c I (Aj (fun _ h=>⟨h.at 3 rfl,h.rd 2 rfl⟩) ?_))
       refine BK 7 15 (by kernel_rfl) I I I I ?_ ?_
       · refine BV (BB nv hlf (ka:Int) (kb:Int) (by omega) hia hib hbd h2l hpos hn3) I I I call212 I (fun w2 h2=>⟨h2.rd 4 rfl,h2.rd 5 rfl,h2.rd 6 rfl,h2.rd 7 rfl⟩) ?_
         rintro⟨s1,s2,s3,s4⟩ _
         refine Pw (St _ _ (Bp s1 (nv.d.es.take (spl nv.d.es))::Bp s2 (nv.d.es.drop (spl nv.d.es))::CG s3 [(ka:Int),(kb:Int)]::CH s4 [(nv.d.es.getD (spl nv.d.es) en0).key]::_)) ?_
         refine Aj (fun _ h=>⟨h.at 7 rfl,h.rd 6 rfl⟩) (Aq 8 I (fun _ h=>⟨h.at 7 rfl,h.rd 6 rfl⟩) (A0 I I) (Aq 9 I (fun _ h=>⟨h.at 7 rfl,h.rd 6 rfl⟩) (Qx I) (Aq 10 I (fun _ h=>⟨h.at 7 rfl,h.rd 6 rfl⟩) (Qx I) (Aq 11 I (fun _ h=>⟨h.at 7 rfl,h.rd 6 rfl⟩) (Qx I) (Aq 12 I (fun _ h=>⟨h.at 7 rfl,h.rd 6 rfl⟩) (Qx I) (AH 15 (by kernel_rfl) I I (Au I I I zeroValue135 (fun b10=>Ce nv0.c I (Aj (fun _ h=>⟨h.at 8 rfl,h.rd 7 rfl⟩) (Pm [1,1,1,1,2,1] I ?_))))))))))
         exact Pzz (K s1 s2 s3 s4 b8 b9 b10) I
       · refine Au I I I zeroValue135 (fun b10=>Ce nv0.c I (Aj (fun _ h=>⟨h.at 4 rfl,h.rd 3 rfl⟩) (AH 7 (by kernel_rfl) I I (BV (BB nv hlf (ka:Int) (kb:Int) (by omega) hia hib hbd h2l hpos hn3) I I I call212 I (fun w2 h2=>⟨h2.rd 5 rfl,h2.rd 6 rfl,h2.rd 7 rfl,h2.rd 8 rfl⟩) ?_))))
         rintro⟨s1,s2,s3,s4⟩ _
         refine Pw (St _ _ (Bp s1 (nv.d.es.take (spl nv.d.es))::Bp s2 (nv.d.es.drop (spl nv.d.es))::CG s3 [(ka:Int),(kb:Int)]::CH s4 [(nv.d.es.getD (spl nv.d.es) en0).key]::_)) ?_
         refine Aj (fun _ h=>⟨h.at 8 rfl,h.rd 7 rfl⟩) (Aq 8 I (fun _ h=>⟨h.at 8 rfl,h.rd 7 rfl⟩) (A0 I I) (Aq 9 I (fun _ h=>⟨h.at 8 rfl,h.rd 7 rfl⟩) (Qx I) (Aq 10 I (fun _ h=>⟨h.at 8 rfl,h.rd 7 rfl⟩) (Qx I) (Aq 11 I (fun _ h=>⟨h.at 8 rfl,h.rd 7 rfl⟩) (Qx I) (Aq 12 I (fun _ h=>⟨h.at 8 rfl,h.rd 7 rfl⟩) (Qx I) (Pnn 20 [2,3,6,5,4,7,8,9,10,11,12,13,14,15,16,17,18,19,0,1] I ?_))))))
         refine Pm [18,18] I ?_
         exact Pzz (K s1 s2 s3 s4 b8 b9 b10) I
     · refine Au I I I zeroValue135 (fun b10=>Ce nv0.c I (Aj (fun _ h=>⟨h.at 3 rfl,h.rd 2 rfl⟩) ?_))
       refine BK 7 14 (by kernel_rfl) I I I I ?_ ?_
       · refine BV (BB nv hlf (ka:Int) (kb:Int) (by omega) hia hib hbd h2l hpos hn3) I I I call212 I (fun w2 h2=>⟨h2.rd 4 rfl,h2.rd 5 rfl,h2.rd 6 rfl,h2.rd 7 rfl⟩) ?_
         rintro⟨s1,s2,s3,s4⟩ _
         refine Pw (St _ _ (Bp s1 (nv.d.es.take (spl nv.d.es))::Bp s2 (nv.d.es.drop (spl nv.d.es))::CG s3 [(ka:Int),(kb:Int)]::CH s4 [(nv.d.es.getD (spl nv.d.es) en0).key]::_)) ?_
         refine Aj (fun _ h=>⟨h.at 7 rfl,h.rd 6 rfl⟩) (Aq 8 I (fun _ h=>⟨h.at 7 rfl,h.rd 6 rfl⟩) (A0 I I) (Aq 9 I (fun _ h=>⟨h.at 7 rfl,h.rd 6 rfl⟩) (Qx I) (Aq 10 I (fun _ h=>⟨h.at 7 rfl,h.rd 6 rfl⟩) (Qx I) (Aq 11 I (fun _ h=>⟨h.at 7 rfl,h.rd 6 rfl⟩) (Qx I) (Aq 12 I (fun _ h=>⟨h.at 7 rfl,h.rd 6 rfl⟩) (Qx I) (AH 14 (by kernel_rfl) I I (Au I I I zeroValue135 (fun b9=>Ce nv0.c I (Aj (fun _ h=>⟨h.at 8 rfl,h.rd 7 rfl⟩) (Pm [1,1,1,1,2] I ?_))))))))))
         exact Pzz (K s1 s2 s3 s4 b8 b9 b10) I
       · refine Au I I I zeroValue135 (fun b9=>Ce nv0.c I (Aj (fun _ h=>⟨h.at 4 rfl,h.rd 3 rfl⟩) (AH 7 (by kernel_rfl) I I (BV (BB nv hlf (ka:Int) (kb:Int) (by omega) hia hib hbd h2l hpos hn3) I I I call212 I (fun w2 h2=>⟨h2.rd 5 rfl,h2.rd 6 rfl,h2.rd 7 rfl,h2.rd 8 rfl⟩) ?_))))
         rintro⟨s1,s2,s3,s4⟩ _
         refine Pw (St _ _ (Bp s1 (nv.d.es.take (spl nv.d.es))::Bp s2 (nv.d.es.drop (spl nv.d.es))::CG s3 [(ka:Int),(kb:Int)]::CH s4 [(nv.d.es.getD (spl nv.d.es) en0).key]::_)) ?_
         refine Aj (fun _ h=>⟨h.at 8 rfl,h.rd 7 rfl⟩) (Aq 8 I (fun _ h=>⟨h.at 8 rfl,h.rd 7 rfl⟩) (A0 I I) (Aq 9 I (fun _ h=>⟨h.at 8 rfl,h.rd 7 rfl⟩) (Qx I) (Aq 10 I (fun _ h=>⟨h.at 8 rfl,h.rd 7 rfl⟩) (Qx I) (Aq 11 I (fun _ h=>⟨h.at 8 rfl,h.rd 7 rfl⟩) (Qx I) (Aq 12 I (fun _ h=>⟨h.at 8 rfl,h.rd 7 rfl⟩) (Qx I) (Pnn 20 [2,3,6,4,5,7,8,9,10,11,12,13,14,15,16,17,18,19,0,1] I ?_))))))
         refine Pm [18,18] I ?_
         exact Pzz (K s1 s2 s3 s4 b8 b9 b10) I
   · refine Au I I I zeroValue135 (fun b9=>Ce nv0.c I (Aj (fun _ h=>⟨h.at 2 rfl,h.rd 1 rfl⟩) ?_))
     refine H5 7 13 15 (by kernel_rfl) I I I I I I ?_ ?_ ?_
     · refine BV (BB nv hlf (ka:Int) (kb:Int) (by omega) hia hib hbd h2l hpos hn3) I I I call212 I (fun w2 h2=>⟨h2.rd 3 rfl,h2.rd 4 rfl,h2.rd 5 rfl,h2.rd 6 rfl⟩) ?_
       rintro⟨s1,s2,s3,s4⟩ _
       refine Pw (St _ _ (Bp s1 (nv.d.es.take (spl nv.d.es))::Bp s2 (nv.d.es.drop (spl nv.d.es))::CG s3 [(ka:Int),(kb:Int)]::CH s4 [(nv.d.es.getD (spl nv.d.es) en0).key]::_)) ?_
       refine Aj (fun _ h=>⟨h.at 6 rfl,h.rd 5 rfl⟩) (Aq 8 I (fun _ h=>⟨h.at 6 rfl,h.rd 5 rfl⟩) (A0 I I) (Aq 9 I (fun _ h=>⟨h.at 6 rfl,h.rd 5 rfl⟩) (Qx I) (Aq 10 I (fun _ h=>⟨h.at 6 rfl,h.rd 5 rfl⟩) (Qx I) (Aq 11 I (fun _ h=>⟨h.at 6 rfl,h.rd 5 rfl⟩) (Qx I) (Aq 12 I (fun _ h=>⟨h.at 6 rfl,h.rd 5 rfl⟩) (Qx I) ?_)))))
       refine BK 13 15 (by kernel_rfl) I I I I ?_ ?_
       · refine Au I I I zeroValue135 (fun b8=>Ce nv0.c I (Aj (fun _ h=>⟨h.at 7 rfl,h.rd 6 rfl⟩) (AH 15 (by kernel_rfl) I I (Au I I I zeroValue135 (fun b10=>Ce nv0.c I (Aj (fun _ h=>⟨h.at 8 rfl,h.rd 7 rfl⟩) (Pm [2,2,2,2,1,1] I ?_)))))))
         exact Pzz (K s1 s2 s3 s4 b8 b9 b10) I
       · refine Au I I I zeroValue135 (fun b10=>Ce nv0.c I (Aj (fun _ h=>⟨h.at 7 rfl,h.rd 6 rfl⟩) (AH 13 (by kernel_rfl) I I (Au I I I zeroValue135 (fun b8=>Ce nv0.c I (Aj (fun _ h=>⟨h.at 8 rfl,h.rd 7 rfl⟩) (Pm [2,2,2,2,0,1] I ?_)))))))
         exact Pzz (K s1 s2 s3 s4 b8 b9 b10) I
     · refine Au I I I zeroValue135 (fun b8=>Ce nv0.c I (Aj (fun _ h=>⟨h.at 3 rfl,h.rd 2 rfl⟩) ?_))
       refine BK 7 15 (by kernel_rfl) I I I I ?_ ?_
       · refine BV (BB nv hlf (ka:Int) (kb:Int) (by omega) hia hib hbd h2l hpos hn3) I I I call212 I (fun w2 h2=>⟨h2.rd 4 rfl,h2.rd 5 rfl,h2.rd 6 rfl,h2.rd 7 rfl⟩) ?_
         rintro⟨s1,s2,s3,s4⟩ _
         refine Pw (St _ _ (Bp s1 (nv.d.es.take (spl nv.d.es))::Bp s2 (nv.d.es.drop (spl nv.d.es))::CG s3 [(ka:Int),(kb:Int)]::CH s4 [(nv.d.es.getD (spl nv.d.es) en0).key]::_)) ?_
         refine Aj (fun _ h=>⟨h.at 7 rfl,h.rd 6 rfl⟩) (Aq 8 I (fun _ h=>⟨h.at 7 rfl,h.rd 6 rfl⟩) (A0 I I) (Aq 9 I (fun _ h=>⟨h.at 7 rfl,h.rd 6 rfl⟩) (Qx I) (Aq 10 I (fun _ h=>⟨h.at 7 rfl,h.rd 6 rfl⟩) (Qx I) (Aq 11 I (fun _ h=>⟨h.at 7 rfl,h.rd 6 rfl⟩) (Qx I) (Aq 12 I (fun _ h=>⟨h.at 7 rfl,h.rd 6 rfl⟩) (Qx I) (AH 15 (by kernel_rfl) I I (Au I I I zeroValue135 (fun b10=>Ce nv0.c I (Aj (fun _ h=>⟨h.at 8 rfl,h.rd 7 rfl⟩) (Pm [1,1,1,1,1,1] I ?_))))))))))
         exact Pzz (K s1 s2 s3 s4 b8 b9 b10) I
       · refine Au I I I zeroValue135 (fun b10=>Ce nv0.c I (Aj (fun _ h=>⟨h.at 4 rfl,h.rd 3 rfl⟩) (AH 7 (by kernel_rfl) I I (BV (BB nv hlf (ka:Int) (kb:Int) (by omega) hia hib hbd h2l hpos hn3) I I I call212 I (fun w2 h2=>⟨h2.rd 5 rfl,h2.rd 6 rfl,h2.rd 7 rfl,h2.rd 8 rfl⟩) ?_))))
         rintro⟨s1,s2,s3,s4⟩ _
         refine Pw (St _ _ (Bp s1 (nv.d.es.take (spl nv.d.es))::Bp s2 (nv.d.es.drop (spl nv.d.es))::CG s3 [(ka:Int),(kb:Int)]::CH s4 [(nv.d.es.getD (spl nv.d.es) en0).key]::_)) ?_
         refine Aj (fun _ h=>⟨h.at 8 rfl,h.rd 7 rfl⟩) (Aq 8 I (fun _ h=>⟨h.at 8 rfl,h.rd 7 rfl⟩) (A0 I I) (Aq 9 I (fun _ h=>⟨h.at 8 rfl,h.rd 7 rfl⟩) (Qx I) (Aq 10 I (fun _ h=>⟨h.at 8 rfl,h.rd 7 rfl⟩) (Qx I) (Aq 11 I (fun _ h=>⟨h.at 8 rfl,h.rd 7 rfl⟩) (Qx I) (Aq 12 I (fun _ h=>⟨h.at 8 rfl,h.rd 7 rfl⟩) (Qx I) (Pnn 20 [2,3,5,6,4,7,8,9,10,11,12,13,14,15,16,17,18,19,0,1] I ?_))))))
         refine Pm [18,18] I ?_
         exact Pzz (K s1 s2 s3 s4 b8 b9 b10) I
     · refine Au I I I zeroValue135 (fun b10=>Ce nv0.c I (Aj (fun _ h=>⟨h.at 3 rfl,h.rd 2 rfl⟩) ?_))
       refine BK 7 13 (by kernel_rfl) I I I I ?_ ?_
       · refine BV (BB nv hlf (ka:Int) (kb:Int) (by omega) hia hib hbd h2l hpos hn3) I I I call212 I (fun w2 h2=>⟨h2.rd 4 rfl,h2.rd 5 rfl,h2.rd 6 rfl,h2.rd 7 rfl⟩) ?_
         rintro⟨s1,s2,s3,s4⟩ _
         refine Pw (St _ _ (Bp s1 (nv.d.es.take (spl nv.d.es))::Bp s2 (nv.d.es.drop (spl nv.d.es))::CG s3 [(ka:Int),(kb:Int)]::CH s4 [(nv.d.es.getD (spl nv.d.es) en0).key]::_)) ?_
         refine Aj (fun _ h=>⟨h.at 7 rfl,h.rd 6 rfl⟩) (Aq 8 I (fun _ h=>⟨h.at 7 rfl,h.rd 6 rfl⟩) (A0 I I) (Aq 9 I (fun _ h=>⟨h.at 7 rfl,h.rd 6 rfl⟩) (Qx I) (Aq 10 I (fun _ h=>⟨h.at 7 rfl,h.rd 6 rfl⟩) (Qx I) (Aq 11 I (fun _ h=>⟨h.at 7 rfl,h.rd 6 rfl⟩) (Qx I) (Aq 12 I (fun _ h=>⟨h.at 7 rfl,h.rd 6 rfl⟩) (Qx I) (AH 13 (by kernel_rfl) I I (Au I I I zeroValue135 (fun b8=>Ce nv0.c I (Aj (fun _ h=>⟨h.at 8 rfl,h.rd 7 rfl⟩) (Pm [1,1,1,1,0,1] I ?_))))))))))
         exact Pzz (K s1 s2 s3 s4 b8 b9 b10) I
       · refine Au I I I zeroValue135 (fun b8=>Ce nv0.c I (Aj (fun _ h=>⟨h.at 4 rfl,h.rd 3 rfl⟩) (AH 7 (by kernel_rfl) I I (BV (BB nv hlf (ka:Int) (kb:Int) (by omega) hia hib hbd h2l hpos hn3) I I I call212 I (fun w2 h2=>⟨h2.rd 5 rfl,h2.rd 6 rfl,h2.rd 7 rfl,h2.rd 8 rfl⟩) ?_))))
         rintro⟨s1,s2,s3,s4⟩ _
         refine Pw (St _ _ (Bp s1 (nv.d.es.take (spl nv.d.es))::Bp s2 (nv.d.es.drop (spl nv.d.es))::CG s3 [(ka:Int),(kb:Int)]::CH s4 [(nv.d.es.getD (spl nv.d.es) en0).key]::_)) ?_
         refine Aj (fun _ h=>⟨h.at 8 rfl,h.rd 7 rfl⟩) (Aq 8 I (fun _ h=>⟨h.at 8 rfl,h.rd 7 rfl⟩) (A0 I I) (Aq 9 I (fun _ h=>⟨h.at 8 rfl,h.rd 7 rfl⟩) (Qx I) (Aq 10 I (fun _ h=>⟨h.at 8 rfl,h.rd 7 rfl⟩) (Qx I) (Aq 11 I (fun _ h=>⟨h.at 8 rfl,h.rd 7 rfl⟩) (Qx I) (Aq 12 I (fun _ h=>⟨h.at 8 rfl,h.rd 7 rfl⟩) (Qx I) (Pnn 20 [2,3,4,6,5,7,8,9,10,11,12,13,14,15,16,17,18,19,0,1] I ?_))))))
         refine Pm [18,18] I ?_
         exact Pzz (K s1 s2 s3 s4 b8 b9 b10) I
   · refine Au I I I zeroValue135 (fun b10=>Ce nv0.c I (Aj (fun _ h=>⟨h.at 2 rfl,h.rd 1 rfl⟩) ?_))
     refine H5 7 13 14 (by kernel_rfl) I I I I I I ?_ ?_ ?_
     · refine BV (BB nv hlf (ka:Int) (kb:Int) (by omega) hia hib hbd h2l hpos hn3) I I I call212 I (fun w2 h2=>⟨h2.rd 3 rfl,h2.rd 4 rfl,h2.rd 5 rfl,h2.rd 6 rfl⟩) ?_
       rintro⟨s1,s2,s3,s4⟩ _
       refine Pw (St _ _ (Bp s1 (nv.d.es.take (spl nv.d.es))::Bp s2 (nv.d.es.drop (spl nv.d.es))::CG s3 [(ka:Int),(kb:Int)]::CH s4 [(nv.d.es.getD (spl nv.d.es) en0).key]::_)) ?_
       refine Aj (fun _ h=>⟨h.at 6 rfl,h.rd 5 rfl⟩) (Aq 8 I (fun _ h=>⟨h.at 6 rfl,h.rd 5 rfl⟩) (A0 I I) (Aq 9 I (fun _ h=>⟨h.at 6 rfl,h.rd 5 rfl⟩) (Qx I) (Aq 10 I (fun _ h=>⟨h.at 6 rfl,h.rd 5 rfl⟩) (Qx I) (Aq 11 I (fun _ h=>⟨h.at 6 rfl,h.rd 5 rfl⟩) (Qx I) (Aq 12 I (fun _ h=>⟨h.at 6 rfl,h.rd 5 rfl⟩) (Qx I) ?_)))))
       refine BK 13 14 (by kernel_rfl) I I I I ?_ ?_
       · refine Au I I I zeroValue135 (fun b8=>Ce nv0.c I (Aj (fun _ h=>⟨h.at 7 rfl,h.rd 6 rfl⟩) (AH 14 (by kernel_rfl) I I (Au I I I zeroValue135 (fun b9=>Ce nv0.c I (Aj (fun _ h=>⟨h.at 8 rfl,h.rd 7 rfl⟩) (Pm [2,2,2,2,1] I ?_)))))))
         exact Pzz (K s1 s2 s3 s4 b8 b9 b10) I
       · refine Au I I I zeroValue135 (fun b9=>Ce nv0.c I (Aj (fun _ h=>⟨h.at 7 rfl,h.rd 6 rfl⟩) (AH 13 (by kernel_rfl) I I (Au I I I zeroValue135 (fun b8=>Ce nv0.c I (Aj (fun _ h=>⟨h.at 8 rfl,h.rd 7 rfl⟩) (Pm [2,2,2,2] I ?_)))))))
         exact Pzz (K s1 s2 s3 s4 b8 b9 b10) I
     · refine Au I I I zeroValue135 (fun b8=>Ce nv0.c I (Aj (fun _ h=>⟨h.at 3 rfl,h.rd 2 rfl⟩) ?_))
       refine BK 7 14 (by kernel_rfl) I I I I ?_ ?_
       · refine BV (BB nv hlf (ka:Int) (kb:Int) (by omega) hia hib hbd h2l hpos hn3) I I I call212 I (fun w2 h2=>⟨h2.rd 4 rfl,h2.rd 5 rfl,h2.rd 6 rfl,h2.rd 7 rfl⟩) ?_
         rintro⟨s1,s2,s3,s4⟩ _
         refine Pw (St _ _ (Bp s1 (nv.d.es.take (spl nv.d.es))::Bp s2 (nv.d.es.drop (spl nv.d.es))::CG s3 [(ka:Int),(kb:Int)]::CH s4 [(nv.d.es.getD (spl nv.d.es) en0).key]::_)) ?_
         refine Aj (fun _ h=>⟨h.at 7 rfl,h.rd 6 rfl⟩) (Aq 8 I (fun _ h=>⟨h.at 7 rfl,h.rd 6 rfl⟩) (A0 I I) (Aq 9 I (fun _ h=>⟨h.at 7 rfl,h.rd 6 rfl⟩) (Qx I) (Aq 10 I (fun _ h=>⟨h.at 7 rfl,h.rd 6 rfl⟩) (Qx I) (Aq 11 I (fun _ h=>⟨h.at 7 rfl,h.rd 6 rfl⟩) (Qx I) (Aq 12 I (fun _ h=>⟨h.at 7 rfl,h.rd 6 rfl⟩) (Qx I) (AH 14 (by kernel_rfl) I I (Au I I I zeroValue135 (fun b9=>Ce nv0.c I (Aj (fun _ h=>⟨h.at 8 rfl,h.rd 7 rfl⟩) (Pm [1,1,1,1,1] I ?_))))))))))
         exact Pzz (K s1 s2 s3 s4 b8 b9 b10) I
       · refine Au I I I zeroValue135 (fun b9=>Ce nv0.c I (Aj (fun _ h=>⟨h.at 4 rfl,h.rd 3 rfl⟩) (AH 7 (by kernel_rfl) I I (BV (BB nv hlf (ka:Int) (kb:Int) (by omega) hia hib hbd h2l hpos hn3) I I I call212 I (fun w2 h2=>⟨h2.rd 5 rfl,h2.rd 6 rfl,h2.rd 7 rfl,h2.rd 8 rfl⟩) ?_))))
         rintro⟨s1,s2,s3,s4⟩ _
         refine Pw (St _ _ (Bp s1 (nv.d.es.take (spl nv.d.es))::Bp s2 (nv.d.es.drop (spl nv.d.es))::CG s3 [(ka:Int),(kb:Int)]::CH s4 [(nv.d.es.getD (spl nv.d.es) en0).key]::_)) ?_
         refine Aj (fun _ h=>⟨h.at 8 rfl,h.rd 7 rfl⟩) (Aq 8 I (fun _ h=>⟨h.at 8 rfl,h.rd 7 rfl⟩) (A0 I I) (Aq 9 I (fun _ h=>⟨h.at 8 rfl,h.rd 7 rfl⟩) (Qx I) (Aq 10 I (fun _ h=>⟨h.at 8 rfl,h.rd 7 rfl⟩) (Qx I) (Aq 11 I (fun _ h=>⟨h.at 8 rfl,h.rd 7 rfl⟩) (Qx I) (Aq 12 I (fun _ h=>⟨h.at 8 rfl,h.rd 7 rfl⟩) (Qx I) (Pnn 20 [2,3,5,4,6,7,8,9,10,11,12,13,14,15,16,17,18,19,0,1] I ?_))))))
         refine Pm [18,18] I ?_
         exact Pzz (K s1 s2 s3 s4 b8 b9 b10) I
     · refine Au I I I zeroValue135 (fun b9=>Ce nv0.c I (Aj (fun _ h=>⟨h.at 3 rfl,h.rd 2 rfl⟩) ?_))
       refine BK 7 13 (by kernel_rfl) I I I I ?_ ?_
       · refine BV (BB nv hlf (ka:Int) (kb:Int) (by omega) hia hib hbd h2l hpos hn3) I I I call212 I (fun w2 h2=>⟨h2.rd 4 rfl,h2.rd 5 rfl,h2.rd 6 rfl,h2.rd 7 rfl⟩) ?_
         rintro⟨s1,s2,s3,s4⟩ _
         refine Pw (St _ _ (Bp s1 (nv.d.es.take (spl nv.d.es))::Bp s2 (nv.d.es.drop (spl nv.d.es))::CG s3 [(ka:Int),(kb:Int)]::CH s4 [(nv.d.es.getD (spl nv.d.es) en0).key]::_)) ?_
         refine Aj (fun _ h=>⟨h.at 7 rfl,h.rd 6 rfl⟩) (Aq 8 I (fun _ h=>⟨h.at 7 rfl,h.rd 6 rfl⟩) (A0 I I) (Aq 9 I (fun _ h=>⟨h.at 7 rfl,h.rd 6 rfl⟩) (Qx I) (Aq 10 I (fun _ h=>⟨h.at 7 rfl,h.rd 6 rfl⟩) (Qx I) (Aq 11 I (fun _ h=>⟨h.at 7 rfl,h.rd 6 rfl⟩) (Qx I) (Aq 12 I (fun _ h=>⟨h.at 7 rfl,h.rd 6 rfl⟩) (Qx I) (AH 13 (by kernel_rfl) I I (Au I I I zeroValue135 (fun b8=>Ce nv0.c I (Aj (fun _ h=>⟨h.at 8 rfl,h.rd 7 rfl⟩) (Pm [1,1,1,1] I ?_))))))))))
         exact Pzz (K s1 s2 s3 s4 b8 b9 b10) I
       · refine Au I I I zeroValue135 (fun b8=>Ce nv0.c I (Aj (fun _ h=>⟨h.at 4 rfl,h.rd 3 rfl⟩) (AH 7 (by kernel_rfl) I I (BV (BB nv hlf (ka:Int) (kb:Int) (by omega) hia hib hbd h2l hpos hn3) I I I call212 I (fun w2 h2=>⟨h2.rd 5 rfl,h2.rd 6 rfl,h2.rd 7 rfl,h2.rd 8 rfl⟩) ?_))))
         rintro⟨s1,s2,s3,s4⟩ _
         refine Pw (St _ _ (Bp s1 (nv.d.es.take (spl nv.d.es))::Bp s2 (nv.d.es.drop (spl nv.d.es))::CG s3 [(ka:Int),(kb:Int)]::CH s4 [(nv.d.es.getD (spl nv.d.es) en0).key]::_)) ?_
         refine Aj (fun _ h=>⟨h.at 8 rfl,h.rd 7 rfl⟩) (Aq 8 I (fun _ h=>⟨h.at 8 rfl,h.rd 7 rfl⟩) (A0 I I) (Aq 9 I (fun _ h=>⟨h.at 8 rfl,h.rd 7 rfl⟩) (Qx I) (Aq 10 I (fun _ h=>⟨h.at 8 rfl,h.rd 7 rfl⟩) (Qx I) (Aq 11 I (fun _ h=>⟨h.at 8 rfl,h.rd 7 rfl⟩) (Qx I) (Aq 12 I (fun _ h=>⟨h.at 8 rfl,h.rd 7 rfl⟩) (Qx I) (Pnn 20 [2,3,4,5,6,7,8,9,10,11,12,13,14,15,16,17,18,19,0,1] I ?_))))))
         refine Pm [18,18] I ?_
         exact Pzz (K s1 s2 s3 s4 b8 b9 b10) I
 · intro s1 s2 s3 s4 b8 b9 b10
   have hml:y.hm={x.hm with s:=(x.s.al 2).2}:=hy
   have hqm:y.q.M=x.q.M:=congrArg Hm.M hml
   have hus:y.s=(x.s.al 2).2:=congrArg Hm.s hml
   refine Sv' 1 (ptV y.bh) I (by rw[hbh]) (CY (AH 16 (by kernel_rfl) I I (Ah I I AR I I I (NV.one _) (by show 0+5<=5;decide) (Ay (show Sep.splice _ 0 ((⟨⟨sv0,s3,s4,sv0⟩,⟨false,[],[(ka:Int),(kb:Int)],[(nv.d.es.getD (spl nv.d.es) en0).key],[]⟩⟩:NV)).c=((⟨⟨sv0,s3,s4,sv0⟩,⟨false,[],[(ka:Int),(kb:Int)],[(nv.d.es.getD (spl nv.d.es) en0).key],[]⟩⟩:NV)).c from Sep.e7 I) (Aj (fun _ h=>⟨h.at 8 rfl,h.rd 7 rfl⟩) (Ex (AH 17 (by kernel_rfl) I I (Ah I I AR I I I (NV.one _) (by show 0+5<=5;decide) (Ay (show Sep.splice _ 0 ((lfV s1 (nv.d.es.take (spl nv.d.es)))).c=((lfV s1 (nv.d.es.take (spl nv.d.es)))).c from Sep.e7 I) (Aj (fun _ h=>⟨h.at 8 rfl,h.rd 7 rfl⟩) (D0 (AH 18 (by kernel_rfl) I I (Ah I I AR I I I (NV.one _) (by show 0+5<=5;decide) (Ay (show Sep.splice _ 0 ((lfV s2 (nv.d.es.drop (spl nv.d.es)))).c=((lfV s2 (nv.d.es.drop (spl nv.d.es)))).c from Sep.e7 I) (Aj (fun _ h=>⟨h.at 8 rfl,h.rd 7 rfl⟩) (Aq 19 I (fun _ h=>⟨h.at 8 rfl,h.rd 7 rfl⟩) (AE I I) (BW (by kernel_rfl) (Kt (Cs I (Lm I (Nk (Ai I (Ag ?_)))))))))))))))))))))))
   refine Do8 (rg 7) 1458 _ I St.drawn Ih (Dm I (Dm I (Dc I (Dfa Dp I Z3 I (Dq I (Ao I G3 I (Hat 13 I) I) (Dq I (Cq ((⟨⟨sv0,s3,s4,sv0⟩,⟨false,[],[(ka:Int),(kb:Int)],[(nv.d.es.getD (spl nv.d.es) en0).key],[]⟩⟩:NV).c) Bs AR 2 I (I) (I)) (row0 79 En.enc none (row0 154 Ms.enc none (Pnn 22 [11,12,13,14,15,1,7,8,0,16,17,18,19,20,21,2,3,4,5,6,9,10] I ?_)))))))))
   refine Pm [15,15,15,15,15,15,15] I (d_t I (Ee [_,_,_,_,_,_,_,_,_,_,_,_] (aG hk ht (by rw[hqm];exact hf) (nv:=(⟨⟨sv0,s3,s4,sv0⟩,⟨false,[],[(ka:Int),(kb:Int)],[(nv.d.es.getD (spl nv.d.es) en0).key],[]⟩⟩:NV)) (by rw[hml];exact hwr) (by show Fk ⟨false,[],[(ka:Int),(kb:Int)],[(nv.d.es.getD (spl nv.d.es) en0).key],[]⟩=true;exact hfr) hsr) I call204 Tt ?_))
   rintro z1 ⟨hb1,hk1,hy1⟩
   refine Pw (St _ _ (_::_::_::_::_::_::_::_::_::_::_::_::_::_::_::_::HQ.H (z1))) ?_
   refine AK (Ks ?_)
   have hu1:z1.s=(x.s.al 2).2:=(congrArg Hm.s hy1).trans hus
   refine Sv' 1 (ptV z1.bh) I (by rw[hb1]) (Ii (Av (Ii (Av (Ii (Av (Ii (Av (Do8 (rg 10) 39366 _ I St.drawn Ih (Dm I (Dm I (Dc I (Dfa Dp I Z3 I (Dq I (Ao I G3 I (Hat 11 I) I) (Dm I (Dq I (As 0 I U22 Z3 I (Hrd 5 I) I I (by omega)) (Dq I (AI 0 0 I G3 I I (Hrd 5 I) (show (nI2 (x.s.al 2).1)[0]?=some (ka:Int) by rw[hl2];rfl) I) (Dq I (Cq ((lfV s1 (nv.d.es.take (spl nv.d.es))).c) Bs AR 1 I (I) (I)) (row0 3 (AG .i64) none (row0 77 (Kv.enc 8) none (row0 154 Ms.enc none (Pm [19,19] I ?_))))))))))))))))))))))
   refine Pnn 21 [5,6,7,9,10,11,12,13,14,15,16,8,4,3,2,17,18,19,20,0,1] I (d_t I (Ee [_,_,_,_,_,_,_,_,_,_,_] (Zl hk1 t (k:=ka) (by rw[hu1];exact hua) (nv:=(lfV s1 (nv.d.es.take (spl nv.d.es)))) hfx hsx) I call211 Tt ?_))
   rintro z2 ⟨hb2,hk2,hy2⟩
   refine Pw (St _ _ (_::_::_::_::_::_::_::_::_::_::_::_::_::_::_::HQ.H (z2))) ?_
   refine AK (Kt ?_)
   have hu2:z2.s=(x.s.al 2).2:=(congrArg Hm.s hy2).trans hu1
   refine Sv' 1 (ptV z2.bh) I (by rw[hb2]) (Ig (Av (Ig (Av (Ig (Av (Ig (Av (Do8 (rg 10) 39366 _ I St.drawn Ih (Dm I (Dm I (Dc I (Dfa Dp I Z3 I (Dq I (Ao I G3 I (Hat 10 I) I) (Dm I (Dq I (As 1 I U22 Z3 I (Hrd 4 I) I I (by omega)) (Dq I (AI 1 0 I G3 I I (Hrd 4 I) (show (nI2 (x.s.al 2).1)[1]?=some (kb:Int) by rw[hl2];rfl) I) (Dq I (Cq ((lfV s2 (nv.d.es.drop (spl nv.d.es))).c) Bs AR 0 I (I) (I)) (row0 3 (AG .i64) none (row0 77 (Kv.enc 8) none (row0 154 Ms.enc none (Pm [18,18] I ?_))))))))))))))))))))))
   refine Pnn 20 [5,6,7,9,10,11,12,13,14,15,8,4,3,2,16,17,18,19,0,1] I (d_t I (Ee [_,_,_,_,_,_,_,_,_,_] (Zl hk2 t (k:=kb) (by rw[hu2];exact hub) (nv:=(lfV s2 (nv.d.es.drop (spl nv.d.es)))) hfy hsy) I call211 Tt ?_))
   rintro z3 ⟨hb3,hk3,hy3⟩
   refine Pw (St _ _ (_::_::_::_::_::_::_::_::_::_::_::_::_::_::HQ.H (z3))) ?_
   refine AK (Kt (G6 (Av (G6 (Av (G6 (Av (G6 (Av (Cr I (Lm I (Lm I (Pm [4,4,4,4,4,5,5,5,5,5,5] I ?_)))))))))))))
   refine Pm [15,11,11,11,11] I (l_e I (Bg (Zm br t a0 0 _) I I I call201 I Tt (fun _ _=>AB (Bl (AM (Av (AM (Av (AM (Av (AM (Av (AM (Av (AM (Av (AM (Av (AM (Av (AM (Av (Pm [3,3,3,3] I ?_)))))))))))))))))))))))
   refine Pm [4,4,4] I (Bv I ?_)
   exact fun _ hh=>⟨z3,rfl,⟨by rw[hb3,hb2,hb1,hbh],hk3,by rw[hy3,hy2,hy1,hml]⟩,hh⟩
inductive RS (x:HQ) (B:Nat) (t:Int) (i:Nat):Int->Int->Bool->Bool->Int->Hm->Nat->Prop
 |choose (hlf:(x.q.M.at' i).nd.leaf=true) (hlen:2<=(x.q.M.at' i).nd.es.length):RS x B t i 1 6 true false 0 x.hm B
 |first (hB:B+1<=60000) (hcy:(x.hm.claim t).1=true):RS x B t i 6 7 true false 0 (x.hm.claim t).2 (B+1)
 |second (hB:B+1<=60000) (hcy:(x.hm.claim t).1=true):RS x B t i 7 10 true false 0 (x.hm.claim t).2 (B+1)
 |full (hcl:2<=x.q.M.claims t) (hls:x.s.left<2):RS x B t i 10 11 false true 3 (x.hm.give t) B
 |grow (hlf:(x.q.M.at' i).nd.leaf=true) (hbd:∀e∈(x.q.M.at' i).nd.es,e.Bd) (h2l:2<=(x.q.M.at' i).nd.es.length) (hpos:0<lby (x.q.M.at' i).nd.es) (hn3:(x.q.M.at' i).nd.es.length<=30000) (hcl:2<=x.q.M.claims t) (hls:2<=x.s.left) (hal:∀j,j<2->∃k,(x.s.al j).2.fr=some k) {ka kb:Nat} (hal2:(x.s.al 2).1=[ka,kb]) (hne:ka≠kb) (hia:idB ka=true) (hib:idB kb=true) (hua:(x.s.al 2).2.us[ka]?=some true) (hub:(x.s.al 2).2.us[kb]?=some true) (hwr:(x.hm.lat i).wr=t) (hfr:Fk ⟨false,[],[(ka:Int),(kb:Int)],[((x.q.M.at' i).nd.es.getD (spl (x.q.M.at' i).nd.es) en0).key],[]⟩=true) (hsr:(⟨false,[],[(ka:Int),(kb:Int)],[((x.q.M.at' i).nd.es.getD (spl (x.q.M.at' i).nd.es) en0).key],[]⟩:Nd).Sm 1000) (hfx:Fk (lfN ((x.q.M.at' i).nd.es.take (spl (x.q.M.at' i).nd.es)))=true) (hsx:(lfN ((x.q.M.at' i).nd.es.take (spl (x.q.M.at' i).nd.es))).Sm 1000) (hfy:Fk (lfN ((x.q.M.at' i).nd.es.drop (spl (x.q.M.at' i).nd.es)))=true) (hsy:(lfN ((x.q.M.at' i).nd.es.drop (spl (x.q.M.at' i).nd.es))).Sm 1000):RS x B t i 10 11 false true 0 (((({x.hm with s:=(x.s.al 2).2}:Hm).setN 0 ⟨false,[],[(ka:Int),(kb:Int)],[((x.q.M.at' i).nd.es.getD (spl (x.q.M.at' i).nd.es) en0).key],[]⟩).name t ka (lfN ((x.q.M.at' i).nd.es.take (spl (x.q.M.at' i).nd.es)))).name t kb (lfN ((x.q.M.at' i).nd.es.drop (spl (x.q.M.at' i).nd.es)))) B
theorem RS.nd (h:RS x B t i a0 a1 hs en e m B2):decide (a0=11)=false:=by cases h<;>rfl
theorem dA (h:x.Ok B) {t:Int} (ht:tkB t=true) (hmay:x.hm.may t=true) (br:Nat) {i:Nat} (hf:x.q.M.frI 0 2=some i) {a0 a1:Int} {hs en:Bool} {e:Int} {m:Hm} {B2:Nat} (hR:RS x B t i a0 a1 hs en e m B2):Con prog 88 [ptV br,ptV x.bh] (fun _=>True) (Ad br 249 (rmC t a0 0 true false true 0)::x.H) (fun y:HQ=>.tuple #[.bool en,.int .i64 e]) (fun y=>y.bh=x.bh/\y.Ok B2/\y.hm=m) (fun y=>Ad br 249 (rmC t a1 0 hs false true e)::y.H):=by
 intro w hE hH
 have hd:=hR.nd
 refine Ey func88 I hH ?_
 refine Cs I (Las I (Ak I (Ag (Cs I (Lm I (Lc I (Lfa Dp I Z3 I (Lo G3 0 I (Lq I (Qe I) (Nk (Sb 15 false I (hd) (Ab I (Ae (Ks (Cs I (Lm I (Lm I (Lc I (Lfa Dp I Z3 I (Lo G3 0 I (l_e I (Ee [_] (GF h t) I call82 Tt (fun _ _=>Pw (St _ _ (_::HQ.H (x))) ?_)))))))))))))))))))))))
 refine Sv' 25 (.bool true) I (by rw[hmay]) (Lq I (Qt I) (Nk (Sb 26 false I (I) (Ab I (Ae (Ks ?_))))))
 refine DC (fun (s:N4) (bp:Nat)=>[(0,ptV br),(1,ptV x.bh),(6,.pointer (some ⟨bp,0,none⟩))]) (fun (s:N4) (bp:Nat)=>St w (dom (Ad br 249 (rmC t a0 0 true false true 0)::x.H)) (Ad bp 135 (⟨s,(x.q.M.at' i).nd⟩:NV).c::(Bz (⟨s,(x.q.M.at' i).nd⟩:NV)++(Ad br 249 (rmC t a0 0 true false true 0)::x.H)))) (fun (s:N4) (bp:Nat)=>True) ?_ ?_
 · refine EZ (fun w2=>(Ad br 249 (rmC t a0 0 true false true 0)).at w2/\(Ad x.bh 91 x.cells).at w2) I St.drawn (Aq 0 I (H2 0 1 I) (A0 I I) (Aq 1 I (H2 0 1 I) (Bt I I) (Aq 2 I (H2 0 1 I) (Ba I U91 I Z86 I I) (Aq 3 I (H2 0 1 I) (Ao I G86 I (fun _ h=>h.2) I) (Aq 4 I (H2 0 1 I) (A0 I I) (Aq 5 I (H2 0 1 I) (Bt I I) (Aq 6 I (H2 0 1 I) (Ba I Dp I Z3 I I) (Aq 7 I (H2 0 1 I) (Ao I G3 I (fun _ h=>h.1) I) ?_))))))))
   refine BK 8 12 (by kernel_rfl) I I I I ?_ ?_
   · refine Ee [_] (Gd h hf) I call116 Tt (fun s _=>Pw (St _ _ (_::_::_::_::_::HQ.H (x))) ?_)
     refine Aj (H2 0 5 I) (Aq 9 I (H2 0 5 I) (A0 I I) (Aq 10 I (H2 0 5 I) (Qx I) (Aq 11 I (H2 0 5 I) (Qx I) (AH 12 (by kernel_rfl) I I (Au I I I zeroValue135 (fun bp=>Ce nv0.c I (Aj (H2 1 6 I) (AH 13 (by kernel_rfl) I I (Ah I I AR I I I (NV.one _) (by show 0+5<=5;decide) (Ay (show Sep.splice _ 0 ((⟨s,(x.q.M.at' i).nd⟩:NV)).c=((⟨s,(x.q.M.at' i).nd⟩:NV)).c from Sep.e7 I) (Aj (H2 1 6 I) (Aq 14 I (H2 1 6 I) (AE I I) (BW (by kernel_rfl) (Pm [0,1,1,1,1] I ?_))))))))))))))
     exact Bb ((s,bp)) trivial (Si I) (fun _ h=>h)
   · refine Au I I I zeroValue135 (fun bp=>Ce nv0.c I (Aj (H2 1 2 I) (AH 8 (by kernel_rfl) I I (Ee [_,_] (Gd h hf) I call116 Tt (fun s _=>Pw (St _ _ (_::_::_::_::_::_::HQ.H (x))) ?_)))))
     refine Aj (H2 1 6 I) (Aq 9 I (H2 1 6 I) (A0 I I) (Aq 10 I (H2 1 6 I) (Qx I) (Aq 11 I (H2 1 6 I) (Qx I) (AH 13 (by kernel_rfl) I I (Ah I I AR I I I (NV.one _) (by show 0+5<=5;decide) (Ay (show Sep.splice _ 0 ((⟨s,(x.q.M.at' i).nd⟩:NV)).c=((⟨s,(x.q.M.at' i).nd⟩:NV)).c from Sep.e7 I) (Aj (H2 1 6 I) (Aq 14 I (H2 1 6 I) (AE I I) (BW (by kernel_rfl) (Pm [0,1,1,1,1] I ?_))))))))))
     exact Bb ((s,bp)) trivial (Si I) (fun _ h=>h)
 · intro s bp _
   refine Ag ?_
   refine DC (fun (s2:N4) (bq:Nat)=>[(0,ptV br),(1,ptV x.bh),(6,.pointer (some ⟨bp,0,none⟩)),(8,.pointer (some ⟨bq,0,none⟩))]) (fun (s2:N4) (bq:Nat)=>St w (dom (Ad br 249 (rmC t a0 0 true false true 0)::x.H)) (Ad bp 135 (⟨s,(x.q.M.at' i).nd⟩:NV).c::(Bz (⟨s,(x.q.M.at' i).nd⟩:NV)++(Ad bq 135 (⟨s2,(x.q.M.at' i).nd⟩:NV).c::(Bz (⟨s2,(x.q.M.at' i).nd⟩:NV)++(Ad br 249 (rmC t a0 0 true false true 0)::x.H)))))) (fun (s2:N4) (bq:Nat)=>True) ?_ ?_
   · refine EZ (fun w2=>(Ad br 249 (rmC t a0 0 true false true 0)).at w2/\(Ad x.bh 91 x.cells).at w2) I St.drawn (Aq 0 I (H2 5 6 I) (A0 I I) (Aq 1 I (H2 5 6 I) (Bt I I) (Aq 2 I (H2 5 6 I) (Ba I U91 I Z86 I I) (Aq 3 I (H2 5 6 I) (Ao I G86 I (fun _ h=>h.2) I) (Aq 4 I (H2 5 6 I) (A0 I I) (Aq 5 I (H2 5 6 I) (Bt I I) (Aq 6 I (H2 5 6 I) (Ba I Dp I Z3 I I) (Aq 7 I (H2 5 6 I) (Ao I G3 I (fun _ h=>h.1) I) ?_))))))))
     refine BK 8 12 (by kernel_rfl) I I I I ?_ ?_
     · refine Ee [_,_,_,_,_,_] (Gd h hf) I call116 Tt (fun s2 _=>Pw (St _ _ (_::_::_::_::_::_::_::_::_::_::HQ.H (x))) ?_)
       refine Aj (H2 5 10 I) (Aq 9 I (H2 5 10 I) (A0 I I) (Aq 10 I (H2 5 10 I) (Qx I) (Aq 11 I (H2 5 10 I) (Qx I) (AH 12 (by kernel_rfl) I I (Au I I I zeroValue135 (fun bq=>Ce nv0.c I (Aj (H2 6 11 I) (AH 13 (by kernel_rfl) I I (Ah I I AR I I I (NV.one _) (by show 0+5<=5;decide) (Ay (show Sep.splice _ 0 ((⟨s2,(x.q.M.at' i).nd⟩:NV)).c=((⟨s2,(x.q.M.at' i).nd⟩:NV)).c from Sep.e7 I) (Aj (H2 6 11 I) (Aq 14 I (H2 6 11 I) (AE I I) (BW (by kernel_rfl) (Pnn 17 [2,3,4,5,0,7,8,9,10,6,11,12,13,14,15,16,1] I ?_))))))))))))))
       refine ZO ?_
       exact Bb ((s2,bq)) trivial (Si I) (fun _ h=>h)
     · refine Au I I I zeroValue135 (fun bq=>Ce nv0.c I (Aj (H2 6 7 I) (AH 8 (by kernel_rfl) I I (Ee [_,_,_,_,_,_,_] (Gd h hf) I call116 Tt (fun s2 _=>Pw (St _ _ (_::_::_::_::_::_::_::_::_::_::_::HQ.H (x))) ?_)))))
       refine Aj (H2 6 11 I) (Aq 9 I (H2 6 11 I) (A0 I I) (Aq 10 I (H2 6 11 I) (Qx I) (Aq 11 I (H2 6 11 I) (Qx I) (AH 13 (by kernel_rfl) I I (Ah I I AR I I I (NV.one _) (by show 0+5<=5;decide) (Ay (show Sep.splice _ 0 ((⟨s2,(x.q.M.at' i).nd⟩:NV)).c=((⟨s2,(x.q.M.at' i).nd⟩:NV)).c from Sep.e7 I) (Aj (H2 6 11 I) (Aq 14 I (H2 6 11 I) (AE I I) (BW (by kernel_rfl) (Pnn 17 [4,5,0,7,8,9,10,6,11,12,13,14,15,16,1,2,3] I ?_))))))))))
       refine Pm [14,14,14] I ?_
       exact Bb ((s2,bq)) trivial (Si I) (fun _ h=>h)
   · intro s2 bq _
     refine Ag ?_
     rcases hR with⟨hlf,hlen⟩|⟨hB,hcy⟩|⟨hB,hcy⟩|⟨hcl,hls⟩|⟨hlf,hbd,h2l,hpos,hn3,hcl,hls,hal,hal2,hne,hia,hib,hua,hub,hwr,hfr,hsr,hfx,hsx,hfy,hsy⟩
     · refine Cr I (Ak I (Ag (Cs I (Lm I (Lc I (Lfa Dp I Z3 I (Lo G3 10 I (Nk (Al (Ag (Al (Ag (Al (Ag (Al (Ag (Al (Ag (Al (Ag (Al (Ag (Al ?_)))))))))))))))))))))))
       refine Ag (Al (Ag (Al (Ag (Al (Ag (Ag (Cs I (Lq I (Qe I) (Ak I (Sb 55 true I (I) (Ai I (AO (Ac (Ac (Ar (Kt (Cs I (Lm I (Lm I (Lq I (Cq ((⟨s,(x.q.M.at' i).nd⟩:NV).c) Bs AR 0 I (I) (I)) (Pre.fact (fun _ h=>(h.rd 1 I).vlen) (fun hvl=>G6 (l_e I (Bg (VR br t _ (⟨s,(x.q.M.at' i).nd⟩:NV) hlf (by have e1:s.e.n=(x.q.M.at' i).nd.es.length:=hvl;show 2<=s.e.n;rw[e1];exact hlen)) I I I call138 I Tt (fun _ _=>Nk (AO (AA I (Ac (AA I (Ac (AA I (Ac (AA I (Ac (AA I (Ac (AA I (Ac (AA I (Ac (AA I (Ac (AA I (Ac (Ar (Ks (Do8 (rg 11) 118098 _ I St.drawn Ih (Dm I ?_)))))))))))))))))))))))))))))))))))))))))))))))))
       refine Dc I (Dfa Dp I Z3 I (Dq I (Ao I G3 I (Hat 0 I) I) (Dq I (Qe I) (Dm I (Dc I (Dfa Dp I Z44 I (Dq I (Ao I G44 I (Hat 0 I) I) (Das I (d_t I (e_q I I (AE I I) (AK (Kt (Af (Pm [8,8,8,0,7,7,7,7,7,7] I ?_))))))))))))))
       refine Pm [10,10,10,10,10,10,10] I (Av (Av (Av (Av (Av (Av (Av (Av (Av (Av (Be (rs:=[.tmp 4,.tmp 5]) I I ?_)))))))))))
       exact fun _ hh=>⟨x,rfl,⟨rfl,h,rfl⟩,hh⟩
     · refine Cr I (Ak I (Ag (Cs I (Lm I (Lc I (Lfa Dp I Z3 I (Lo G3 10 I (Nk (Al (Ag (Al (Ag (Al (Ag (Al (Ag (Al (Ag (Al (Ag (Al (Ag (Al ?_)))))))))))))))))))))))
       refine Ag (Al (Ag (Al (Ag (Al (Ag (Ag (Cs I (Lq I (Qe I) (Ak I (Sb 55 false I (I) (Ab I (Ae (Ks (Cs I (Lq I (Qe I) (Ak I (Sb 57 false I (I) (Ab I (Ae (Ks (Cs I (Lq I (Qe I) ?_)))))))))))))))))))))))
       refine Ak I (Sb 59 false I (I) (Ab I (Ae (Ks (Cs I (Lq I (Qe I) (Ak I (Sb 61 false I (I) (Ab I (Ae (Ks (Cs I (Lq I (Qe I) (Ak I (Sb 63 false I (I) (Ab I (Ae (Ks (Cs I (Lq I (Qe I) (Ak I (Sb 65 true I (I) (Ai I ?_)))))))))))))))))))))))
       refine AO (Ac (Ac (AA I (Ac (AA I (Ac (AA I (Ac (AA I (Ac (AA I (Ac (Ar (Kt (Cr I (Las I (AB (Aw (Kt (Cs I (Lm I (Lm I (Lm I ?_)))))))))))))))))))))))
       refine l_e I (Ee [_,_,_,_,_,_,_,_,_,_] (Ru h ht br 6 7 hB hcy) I call140 Tt ?_)
       rintro y ⟨hbh,hk,hy⟩
       refine Pw (St _ _ (_::_::_::_::_::_::_::_::_::_::_::HQ.H y)) ?_
       refine Nk (AO (AA I (Ac (AA I (Ac (AA I (Ac (Ar (Ks (Do8 (rg 11) 118098 _ I St.drawn Ih (Dm I (Dc I (Dfa Dp I Z3 I (Dq I (Ao I G3 I (Hat 10 I) I) (Dq I (Qe I) (Dm I (Dc I (Dfa Dp I Z44 I (Dq I (Ao I G44 I (Hat 10 I) I) (Das I (d_t I (e_q I I (AE I I) (AK ?_)))))))))))))))))))))))
       refine Kt (Af (Av (Av (Av (Av (Av ?_))))))
       refine Av (Av (Av (Av (Av (Be (rs:=[.tmp 4,.tmp 5]) I I ?_)))))
       exact fun _ hh=>⟨y,rfl,⟨hbh,hk,hy⟩,hh⟩
     · refine Cr I (Ak I (Ag (Cs I (Lm I (Lc I (Lfa Dp I Z3 I (Lo G3 10 I (Nk (Al (Ag (Al (Ag (Al (Ag (Al (Ag (Al (Ag (Al (Ag (Al (Ag (Al ?_)))))))))))))))))))))))
       refine Ag (Al (Ag (Al (Ag (Al (Ag (Ag (Cs I (Lq I (Qe I) (Ak I (Sb 55 false I (I) (Ab I (Ae (Ks (Cs I (Lq I (Qe I) (Ak I (Sb 57 false I (I) (Ab I (Ae (Ks (Cs I (Lq I (Qe I) ?_)))))))))))))))))))))))
       refine Ak I (Sb 59 false I (I) (Ab I (Ae (Ks (Cs I (Lq I (Qe I) (Ak I (Sb 61 false I (I) (Ab I (Ae (Ks (Cs I (Lq I (Qe I) (Ak I (Sb 63 false I (I) (Ab I (Ae (Ks (Cs I (Lq I (Qe I) (Ak I (Sb 65 false I (I) (Ab I ?_)))))))))))))))))))))))
       refine Ae (Ks (Cs I (Lq I (Qe I) (Ak I (Sb 67 true I (I) (Ai I (AO (Ac (Ac (AA I (Ac (AA I (Ac (AA I (Ac (AA I (Ac (AA I (Ac (AA I (Ac (Ar (Kt ?_)))))))))))))))))))))))
       refine Cs I (Lm I (Lm I (Lm I (l_e I (Ee [_,_,_,_,_,_,_,_,_,_] (Ru h ht br 7 10 hB hcy) I call140 Tt ?_)))))
       rintro y ⟨hbh,hk,hy⟩
       refine Pw (St _ _ (_::_::_::_::_::_::_::_::_::_::_::HQ.H y)) ?_
       refine Nk (AO (AA I (Ac (AA I (Ac (AA I (Ac (Ar (Ks (Do8 (rg 11) 118098 _ I St.drawn Ih (Dm I (Dc I (Dfa Dp I Z3 I (Dq I (Ao I G3 I (Hat 10 I) I) (Dq I (Qe I) (Dm I (Dc I (Dfa Dp I Z44 I (Dq I (Ao I G44 I (Hat 10 I) I) (Das I (d_t I (e_q I I (AE I I) (AK ?_)))))))))))))))))))))))
       refine Kt (Af (Av (Av (Av (Av (Av ?_))))))
       refine Av (Av (Av (Av (Av (Be (rs:=[.tmp 4,.tmp 5]) I I ?_)))))
       exact fun _ hh=>⟨y,rfl,⟨hbh,hk,hy⟩,hh⟩
     · refine Cr I (Ak I (Ag (Cs I (Lm I (Lc I (Lfa Dp I Z3 I (Lo G3 10 I (Nk (Al (Ag (Al (Ag (Al (Ag (Al (Ag (Al (Ag (Al (Ag (Al (Ag (Al ?_)))))))))))))))))))))))
       refine Ag (Al (Ag (Al (Ag (Al (Ag (Ag (Cs I (Lq I (Qe I) (Ak I (Sb 55 false I (I) (Ab I (Ae (Ks (Cs I (Lq I (Qe I) (Ak I (Sb 57 false I (I) (Ab I (Ae (Ks (Cs I (Lq I (Qe I) ?_)))))))))))))))))))))))
       refine Ak I (Sb 59 false I (I) (Ab I (Ae (Ks (Cs I (Lq I (Qe I) (Ak I (Sb 61 false I (I) (Ab I (Ae (Ks (Cs I (Lq I (Qe I) (Ak I (Sb 63 false I (I) (Ab I (Ae (Ks (Cs I (Lq I (Qe I) (Ak I (Sb 65 false I (I) (Ab I ?_)))))))))))))))))))))))
       refine Ae (Ks (Cs I (Lq I (Qe I) (Ak I (Sb 67 false I (I) (Ab I (Ae (Ks (Cs I (Lq I (Qe I) (Ak I (Sb 69 false I (I) (Ab I (Ae (Ks (Cs I (Lq I (Qe I) (Ak I (Sb 71 false I (I) (Ab I (Ae (Kt (Cs I ?_)))))))))))))))))))))))
       refine Lq I (Qe I) (Ak I (Sb 73 true I (I) (Ai I (AO (Ac (AA I (Ac (AA I (Ac (AA I (Ac (AA I (Ac (AA I (Ac (AA I (Ac (AA I (Ac (AA I (Ac (AA I (Ac ?_)))))))))))))))))))))))
       refine Ar (Kt (Cs I (Lm I (Lm I (Lq I (Cq ((⟨s,(x.q.M.at' i).nd⟩:NV).c) Bs AR 0 I (I) (I)) (l_e I ?_))))))
       refine Ee [_,_,_,_,_,_,_,_,_,_] (Tf h ht br 10 (⟨s,(x.q.M.at' i).nd⟩:NV) hcl hls) I call142 Tt ?_
       rintro y ⟨hbh,hk,hy⟩
       refine Pw (St _ _ (_::_::_::_::_::_::_::_::_::_::_::HQ.H y)) ?_
       refine Nk (AO (Ar (Ks (Do8 (rg 11) 118098 _ I St.drawn Ih (Dm I (Dc I (Dfa Dp I Z3 I (Dq I (Ao I G3 I (Hat 10 I) I) (Dq I (Qe I) (Dm I (Dc I (Dfa Dp I Z44 I (Dq I (Ao I G44 I (Hat 10 I) I) (Das I (d_t I (e_q I I (AE I I) (AK (Kt (Af (Pm [13,13,13,13] I ?_))))))))))))))))))))
       refine Pnn 17 [4,5,6,7,8,9,10,11,12,13,14,15,16,0,1,2,3] I (Av (Av (Av (Av (Av (Av (Av (Av (Av (Av (Be (rs:=[.tmp 4,.tmp 5]) I I ?_)))))))))))
       exact fun _ hh=>⟨y,rfl,⟨hbh,hk,hy⟩,hh⟩
     · refine Cr I (Ak I (Ag (Cs I (Lm I (Lc I (Lfa Dp I Z3 I (Lo G3 10 I (Nk (Al (Ag (Al (Ag (Al (Ag (Al (Ag (Al (Ag (Al (Ag (Al (Ag (Al ?_)))))))))))))))))))))))
       refine Ag (Al (Ag (Al (Ag (Al (Ag (Ag (Cs I (Lq I (Qe I) (Ak I (Sb 55 false I (I) (Ab I (Ae (Ks (Cs I (Lq I (Qe I) (Ak I (Sb 57 false I (I) (Ab I (Ae (Ks (Cs I (Lq I (Qe I) ?_)))))))))))))))))))))))
       refine Ak I (Sb 59 false I (I) (Ab I (Ae (Ks (Cs I (Lq I (Qe I) (Ak I (Sb 61 false I (I) (Ab I (Ae (Ks (Cs I (Lq I (Qe I) (Ak I (Sb 63 false I (I) (Ab I (Ae (Ks (Cs I (Lq I (Qe I) (Ak I (Sb 65 false I (I) (Ab I ?_)))))))))))))))))))))))
       refine Ae (Ks (Cs I (Lq I (Qe I) (Ak I (Sb 67 false I (I) (Ab I (Ae (Ks (Cs I (Lq I (Qe I) (Ak I (Sb 69 false I (I) (Ab I (Ae (Ks (Cs I (Lq I (Qe I) (Ak I (Sb 71 false I (I) (Ab I (Ae (Kt (Cs I ?_)))))))))))))))))))))))
       refine Lq I (Qe I) (Ak I (Sb 73 true I (I) (Ai I (AO (Ac (AA I (Ac (AA I (Ac (AA I (Ac (AA I (Ac (AA I (Ac (AA I (Ac (AA I (Ac (AA I (Ac (AA I (Ac ?_)))))))))))))))))))))))
       refine Ar (Kt (Cs I (Lm I (Lm I (Lq I (Cq ((⟨s,(x.q.M.at' i).nd⟩:NV).c) Bs AR 0 I (I) (I)) (Pm [0,4,4,4,4,4] I (l_e I ?_)))))))
       refine Ee [_,_,_,_,_,_] (P3 h ht br 10 (⟨s,(x.q.M.at' i).nd⟩:NV) hlf hbd h2l hpos hn3 hcl hls hal hal2 hne hia hib hua hub hf hwr hfr hsr hfx hsx hfy hsy) I call142 Tt ?_
       rintro y ⟨hbh,hk,hy⟩
       refine Pw (St _ _ (_::_::_::_::_::_::_::HQ.H y)) ?_
       refine Nk (AO (Ar (Ks (Do8 (rg 11) 118098 _ I St.drawn Ih (Dm I (Dc I (Dfa Dp I Z3 I (Dq I (Ao I G3 I (Hat 6 I) I) (Dq I (Qe I) (Dm I (Dc I (Dfa Dp I Z44 I (Dq I (Ao I G44 I (Hat 6 I) I) (Das I (d_t I (e_q I I (AE I I) (AK (Kt (Af (Pm [9,9,9,9] I ?_))))))))))))))))))))
       refine Pm [4,4,4,4,4,4,4,4,4] I (Av (Av (Av (Av (Av (Av (Be (rs:=[.tmp 4,.tmp 5]) I I ?_)))))))
       exact fun _ hh=>⟨y,rfl,⟨hbh,hk,hy⟩,hh⟩
theorem FH :Con prog 124 [] (fun _=>True) [] (fun _:Unit=>.agg ([fnV 182,fnV 183,fnV 184,fnV 185,fnV 186]).toArray) (fun _=>True) (fun _=>[]):=by
 intro w hE hH
 refine E0 func124 I hH ?_
 refine Cs I (l_e I (Au I I I zeroValue231 (fun br=>Nk (Cs I (Lq I (AN ([fnV 182,fnV 183,fnV 184,fnV 185,fnV 186]) I I (fun w=>by kernel_rfl)) (l_e I (Ah rfl rfl sizeOf231 rfl rfl rfl (fun v hv=>by simp at hv;rcases hv with rfl|rfl|rfl|rfl|rfl<;>rfl) (by show 0+5<=5;decide) (Ce [fnV 182,fnV 183,fnV 184,fnV 185,fnV 186] I (Nk (Af (CL I (AJ I isAgg231 sizeOf231 (Hat 0 I) (I)) ?_)))))))))))
 exact fun _ h=>⟨(),rfl,trivial,h.e8⟩
theorem RS.ends (h:RS x B t i a0 a1 hs en e m B2):(en=false/\e=0)\/(en=true/\e=0)\/(en=true/\e=3):=by cases h<;>simp
def wbW (t:Int) (m:Ms) (br:Nat) (en:Bool) (e:Int):Wr:=if en=true then (if e=0 then⟨t,m,3,true,.pointer none,0⟩ else⟨t,m,5,false,.pointer none,e⟩) else⟨t,m,4,true,ptV br,0⟩
def wbH (t:Int) (i:Nat) (en:Bool) (e:Int) (h:Hm):Hm:=if en=true then (if e=0 then h else h.leave i t 0) else h
theorem aY (h:x.Ok B) {t:Int} (ht:tkB t=true) (hmay:x.hm.may t=true) (br:Nat) {i:Nat} (hf:x.q.M.frI 0 2=some i) {a0 a1:Int} {hs en:Bool} {e:Int} {m2:Hm} {B2:Nat} (hR:RS x B t i a0 a1 hs en e m2 B2) (hl:en=true->e=3->m2.M.frI 0 2=some i/\DH (m2.lat i) t=true) (b:Nat) (m:Ms) (sq:Int):Con prog 186 [ptV b,ptV x.bh,.int .u64 sq] (fun _=>True) (Ad br 249 (rmC t a0 0 true false true 0)::WRE b (⟨t,m,4,true,(ptV br),0⟩:Wr)::x.H) (fun y:HQ=>.bool false) (fun y=>y.bh=x.bh/\y.Ok B2/\y.hm=wbH t i en e m2) (fun y=>Ad br 249 (rmC t a1 0 hs false true e)::WRE b (wbW t m br en e)::y.H):=by
 intro w hE hH
 refine Ey func186 I hH ?_
 refine Cs I (Ak I (Cs I (Lm I (Lc I (Lfa BT I Po I (Lq I (Ao I isAgg177 I (Hat 1 I) (Wr.mid _ (j:=2) I)) (Lm I (Pm [1] I (l_e I (Ee [_] (dA h ht hmay br hf hR) I call88 Tt ?_))))))))))
 rintro y ⟨hbh,hk,hy⟩
 refine Pw (St _ _ (_::_::HQ.H y)) ?_
 rcases hR.ends with⟨rfl,rfl⟩|⟨rfl,rfl⟩|⟨rfl,rfl⟩
 · refine Lm I (Lq I (Qx I) (Lq I (Qx I) (Las I (Ak I (Ag (Al (Cs I (Lm I (Lm I (Lx I (Lx I (Lq I (Qz I) (Ak I (Ab I (Cs I (Lm I (Ak I (Ab I (Ae (Aw (Kt (Cs I (Ak I ?_)))))))))))))))))))))))
   refine Af (Pm [1] I (An I I ?_))
   exact fun _ hh=>⟨y,rfl,⟨hbh,hk,hy⟩,hh⟩
 · refine Lm I (Lq I (Qx I) (Lq I (Qx I) (Las I (Ak I (Ag (Al (Cs I (Lm I (Lm I (Lm I (Lq I (Qe I) (Lq I (Qy I) (Ak I (Sb 18 true I (I) (Ai I (Cr I (Lm I (Lm I (Lc I (Lfa BT I Z3 I (l_e I (AF I I Z3 I I I (by rw[Wr.e6];decide) (Ce ((⟨t,m,3,true,(ptV br),0⟩:Wr)).c (Wr.set_mid (j:=0) I I I) ?_)))))))))))))))))))))))
   refine Lc I (Lfa BT I Po I (l_e I (AF I I Po I I I (by rw[Wr.e6];decide) (Ce ((⟨t,m,3,true,(.pointer none),0⟩:Wr)).c (Wr.set_mid (j:=2) I I I) (AB (Aw (Kt (Cs I (Ak I (Af (Pm [1] I (An I I ?_))))))))))))
   exact fun _ hh=>⟨y,rfl,⟨hbh,hk,hy⟩,hh⟩
 · refine Lm I (Lq I (Qx I) (Lq I (Qx I) (Las I (Ak I (Ag (Al (Cs I (Lm I (Lm I (Lm I (Lq I (Qe I) (Lq I (Qy I) (Ak I (Sb 18 false I (I) (Ab I (Cs I (Lm I (Ak I (Ai I (Cr I (Lm I (Lm I (Lm I ?_)))))))))))))))))))))))
   have hl:=hl rfl rfl
   refine Sv' 33 (ptV y.bh) I (by rw[hbh]) (Pm [1] I (l_e I (Ee [_] (MJ hk ht b m (3:Int) (i:=i) (by rw[show y.q.M=m2.M from congrArg Hm.M hy];exact hl.1) (by rw[hy];exact hl.2) 4 (ptV br)) I call254 Tt ?_)))
   rintro z ⟨hbz,hkz,hz⟩
   refine Pw (St _ _ (_::_::HQ.H z)) ?_
   refine AB (Aw (Kt (Cs I (Ak I (Af (An I I ?_))))))
   exact fun _ hh=>⟨z,rfl,⟨by rw[hbz,hbh],hkz,by rw[hz,hy];rfl⟩,hh⟩
structure Wv where
 a:Int
 p:Bool
 r:Option (Int×Bool×Int)
 e:Int
def Wv.H (v:Wv) (t:Int) (m:Ms) (b br:Nat):List Ent:=match v.r with
 |none=>[WRE b ⟨t,m,v.a,v.p,.pointer none,v.e⟩]
 |some r=>[Ad br 249 (rmC t r.1 0 r.2.1 false true r.2.2),WRE b ⟨t,m,v.a,v.p,ptV br,v.e⟩]
def wbV (a1:Int) (hs en:Bool) (e:Int):Wv:=if en=true then (if e=0 then⟨3,true,none,0⟩ else⟨5,false,none,e⟩) else⟨4,true,some (a1,hs,e),0⟩
theorem Yn (t:Int) (m:Ms) (br:Nat) (a1:Int) (hs en:Bool) (e:Int):Ending.returned (Value.tuple #[.bool (decide ((wbW t m br en e).at'=5)),.bool false,.int .i64 (wbW t m br en e).e])=Ending.returned (Value.tuple #[.bool (decide ((wbV a1 hs en e).a=5)),.bool false,.int .i64 (wbV a1 hs en e).e]):=by
 unfold wbW wbV
 cases en
 · rfl
 · by_cases he:e=0
   · simp only[he,gR]
   · simp only[he,gR,iL]
inductive WS (x:HQ) (B:Nat) (t:Int) (m:Ms) (sq:Int):Wv->Wv->Bool->Hm->Nat->Prop
 |pin (hB:B+1<=60000) (hu:x.s.us[0]?=some true):WS x B t m sq ⟨0,false,none,0⟩ ⟨(Ki (x.hm.pin t ((0:Nat):Int)).1).1,(Ki (x.hm.pin t ((0:Nat):Int)).1).2,none,0⟩ false (x.hm.pin t ((0:Nat):Int)).2 (B+1)
 |load (hu:x.s.us[0]?=some true) (hr:Cn (0:Int) x.rd=some t) {bk:Bk} (hb:x.s.bl[0]?=some bk) {nd:Nd} (hd:PW bk.l nd) (hsm:nd.Sm 1000):WS x B t m sq ⟨1,true,none,0⟩ ⟨2,true,none,0⟩ false (x.hm.load 0 nd) B
 |take (hB:B+1<=60000) {i:Nat} (hf:x.q.M.frI 0 2=some i):WS x B t m sq ⟨2,true,none,0⟩ ⟨3,true,none,0⟩ false (x.hm.take i t true) (B+1)
 |leaf (hsq:(Lit.int .u64 sq).wf=true) {i:Nat} (hf:x.q.M.frI 0 2=some i) (hlf:(x.q.M.at' i).nd.leaf=true) (hri:B8 (x.q.M.at' i).nd.es) (hri2:B8 (Bu (x.q.M.at' i).nd.es m)) (hwr:(x.hm.lat i).wr=t) (hhs:DH (x.hm.lat i) t=true) (hft:Cd (Cb (x.q.M.at' i).nd (m.e9 sq hsq))=true) (hsm2:(Cb (x.q.M.at' i).nd (m.e9 sq hsq)).Sm 1000):WS x B t m sq ⟨3,true,none,0⟩ ⟨5,false,none,0⟩ true ((x.hm.setN 0 (Cb (x.q.M.at' i).nd (m.e9 sq hsq))).leave i t 0) B
 |inner (hsq:(Lit.int .u64 sq).wf=true) {i:Nat} (hf:x.q.M.frI 0 2=some i) (hlf:(x.q.M.at' i).nd.leaf=false) (hri:DV Ms.key (x.q.M.at' i).nd.msgs) (hri2:DV Ms.key (DW (x.q.M.at' i).nd.msgs (m.e9 sq hsq))) (hwr:(x.hm.lat i).wr=t) (hhs:DH (x.hm.lat i) t=true) (hft:GC (CJ (x.q.M.at' i).nd (m.e9 sq hsq))=true) (hsm2:(CJ (x.q.M.at' i).nd (m.e9 sq hsq)).Sm 1000):WS x B t m sq ⟨3,true,none,0⟩ ⟨5,false,none,0⟩ true ((x.hm.setN 0 (CJ (x.q.M.at' i).nd (m.e9 sq hsq))).leave i t 0) B
 |no (hsq:(Lit.int .u64 sq).wf=true) {i:Nat} (hf:x.q.M.frI 0 2=some i) (hlf:(x.q.M.at' i).nd.leaf=true) (hri:B8 (x.q.M.at' i).nd.es) (hri2:B8 (Bu (x.q.M.at' i).nd.es m)) (hft:Cd (Cb (x.q.M.at' i).nd (m.e9 sq hsq))=false):WS x B t m sq ⟨3,true,none,0⟩ ⟨4,true,some (1,true,0),0⟩ false x.hm B
 |room {i:Nat} (hf:x.q.M.frI 0 2=some i) {a0 a1:Int} {hs en:Bool} {e:Int} {m2:Hm} {B2:Nat} (hR:RS x B t i a0 a1 hs en e m2 B2) (hl:en=true->e=3->m2.M.frI 0 2=some i/\DH (m2.lat i) t=true):WS x B t m sq ⟨4,true,some (a0,true,0),0⟩ (wbV a1 hs en e) false (wbH t i en e m2) B2
theorem dB (a1:Int) (hs en:Bool) (e:Int) (t:Int) (m:Ms) (b br:Nat) {H:List Ent} {w0 w:World} {D:List Nat} (h:St w0 D (Ad br 249 (rmC t a1 0 hs false true e)::WRE b (wbW t m br en e)::H) w):St w0 D ((wbV a1 hs en e).H t m b br++H) w:=by
 unfold wbW at h;unfold wbV
 cases en
 · exact h
 · by_cases he:e=0
   · simp only[he,gR] at h ⊢;exact h.drop
   · simp only[he,gR,iL] at h ⊢;exact h.drop
theorem VS (h:x.Ok B) {t:Int} (ht:tkB t=true) (hmay:x.hm.may t=true) (b br:Nat) (m:Ms) (sq:Int) {v v2:Wv} {inn:Bool} {m3:Hm} {B3:Nat} (hW:WS x B t m sq v v2 inn m3 B3):Con prog 80 [ptV b,ptV x.bh,.int .u64 sq] (fun _=>True) (v.H t m b br++x.H) (fun y:Nat×HQ=>.tuple #[.bool (decide (v2.a=5)),.bool inn,.int .i64 v2.e]) (fun y=>y.2.bh=x.bh/\y.2.Ok B3/\y.2.hm=m3) (fun y=>v2.H t m b y.1++y.2.H):=by
 rcases hW with⟨hB,hu⟩|⟨hu,hr,hb,hd,hsm⟩|⟨hB,hf⟩|⟨hsq,hf,hlf,hri,hri2,hwr,hhs,hft,hsm2⟩|⟨hsq,hf,hlf,hri,hri2,hwr,hhs,hft,hsm2⟩|⟨hsq,hf,hlf,hri,hri2,hft⟩|@⟨i,hf,a0,a1,hs,en,e,m2,B2,hR,hl⟩
 · intro w hE hH
   refine Ey func80 I hH ?_
   refine Cs I (Las I (Las I (Ak I (Ag (Cs I (Lm I (Lc I (Lfa BT I Z3 I (Lq I (Ao I G3 I (Hat 0 I) (Wr.mid _ (j:=0) I)) (Lq I (Qn I) (Lm I (Sb 14 true I (I) (Lm I (Lm I (Lc I (Lfa BT I Z3 I (Lo G3 0 I (l_e I (Ee [_] (GF h t) I call82 Tt (fun _ _=>Pw (St _ _ (_::HQ.H (x))) ?_))))))))))))))))))))
   refine Sv' 20 (.bool true) I (by rw[hmay]) (Lq I (Qy I) (Nk (Ai I (Do8 [1,2,3,4,6,7,8,0,5,9,10] 159651 (fun w2=>(WRE b (⟨t,m,0,false,(.pointer none),0⟩:Wr)).at w2) I St.drawn (Hat 0 I) (Dm I (Dc I (Dfa BT I Z3 I (Dq I (Ao I G3 I Ih (Wr.mid _ (j:=0) I)) (Dm I (Dm I (Dm I (d_e I (E1 (FH) I call124 Tt (fun _ _=>Aj (Hat 0 I) (Dq I (DU (v:=fnV 182) I I I (fun w=>by kernel_rfl)) (d_t I (EV [] (dy h ht b m sq hB hu) I I I I call182 I Tt ?_)))))))))))))))))
   rintro y ⟨hbh,hk,hy⟩
   refine Pw (St _ _ (_::HQ.H (y))) ?_
   refine d_t I (e_q I I (AE I I) (AK (Ks (Do8 (rg 13) 1062882 _ I St.drawn Ih (Dm I (Dc I (Dfa BT I Z3 I (Dq I (Ao I G3 I (Hat 0 I) (Wr.mid _ (j:=0) I)) (Dq I (Qe I) (Dm I (Dm I (Dc I (Dfa BT I Z44 I (Dq I (Ao I G44 I (Hat 0 I) (Wr.mid _ (j:=3) I)) (Das I (Das I (d_t I (e_q I I (AE I I) (AK (Kt (Af (Be (rs:=[.tmp 6,.tmp 7,.tmp 8]) I I ?_))))))))))))))))))))))
   exact fun _ hh=>⟨(br,y),congrArg (fun z=>Ending.returned (Value.tuple #[Value.bool z,.bool _,.int .i64 _])) (by show decide ((Ki (x.hm.pin t ((0:Nat):Int)).1).1=5)=decide ((Ki (x.hm.pin t ((0:Nat):Int)).1).1=5);rfl),⟨hbh,hk,hy⟩,hh⟩
 · intro w hE hH
   refine Ey func80 I hH ?_
   refine Cs I (Las I (Las I (Ak I (Ag (Cs I (Lm I (Lc I (Lfa BT I Z3 I (Lq I (Ao I G3 I (Hat 0 I) (Wr.mid _ (j:=0) I)) (Lq I (Qn I) (Lm I (Sb 14 true I (I) (Lm I (Lm I (Lc I (Lfa BT I Z3 I (Lo G3 0 I (l_e I (Ee [_] (GF h t) I call82 Tt (fun _ _=>Pw (St _ _ (_::HQ.H (x))) ?_))))))))))))))))))))
   refine Sv' 20 (.bool true) I (by rw[hmay]) (Lq I (Qy I) (Nk (Ai I (Do8 [1,2,3,4,6,7,8,0,5,9,10] 159651 (fun w2=>(WRE b (⟨t,m,1,true,(.pointer none),0⟩:Wr)).at w2) I St.drawn (Hat 0 I) (Dm I (Dc I (Dfa BT I Z3 I (Dq I (Ao I G3 I Ih (Wr.mid _ (j:=0) I)) (Dm I (Dm I (Dm I (d_e I (E1 (FH) I call124 Tt (fun _ _=>Aj (Hat 0 I) (Dq I (DU (v:=fnV 183) I I I (fun w=>by kernel_rfl)) (d_t I (EV [] (aS h ht b m sq hu hr hb hd hsm) I I I I call183 I Tt ?_)))))))))))))))))
   rintro y ⟨hbh,hk,hy⟩
   refine Pw (St _ _ (_::HQ.H (y))) ?_
   refine d_t I (e_q I I (AE I I) (AK (Ks (Do8 (rg 13) 1062882 _ I St.drawn Ih (Dm I (Dc I (Dfa BT I Z3 I (Dq I (Ao I G3 I (Hat 0 I) (Wr.mid _ (j:=0) I)) (Dq I (Qe I) (Dm I (Dm I (Dc I (Dfa BT I Z44 I (Dq I (Ao I G44 I (Hat 0 I) (Wr.mid _ (j:=3) I)) (Das I (Das I (d_t I (e_q I I (AE I I) (AK (Kt (Af (Be (rs:=[.tmp 6,.tmp 7,.tmp 8]) I I ?_))))))))))))))))))))))
   exact fun _ hh=>⟨(br,y),congrArg (fun z=>Ending.returned (Value.tuple #[Value.bool z,.bool _,.int .i64 _])) (I),⟨hbh,hk,hy⟩,hh⟩
 · intro w hE hH
   refine Ey func80 I hH ?_
   refine Cs I (Las I (Las I (Ak I (Ag (Cs I (Lm I (Lc I (Lfa BT I Z3 I (Lq I (Ao I G3 I (Hat 0 I) (Wr.mid _ (j:=0) I)) (Lq I (Qn I) (Lm I (Sb 14 true I (I) (Lm I (Lm I (Lc I (Lfa BT I Z3 I (Lo G3 0 I (l_e I (Ee [_] (GF h t) I call82 Tt (fun _ _=>Pw (St _ _ (_::HQ.H (x))) ?_))))))))))))))))))))
   refine Sv' 20 (.bool true) I (by rw[hmay]) (Lq I (Qy I) (Nk (Ai I (Do8 [1,2,3,4,6,7,8,0,5,9,10] 159651 (fun w2=>(WRE b (⟨t,m,2,true,(.pointer none),0⟩:Wr)).at w2) I St.drawn (Hat 0 I) (Dm I (Dc I (Dfa BT I Z3 I (Dq I (Ao I G3 I Ih (Wr.mid _ (j:=0) I)) (Dm I (Dm I (Dm I (d_e I (E1 (FH) I call124 Tt (fun _ _=>Aj (Hat 0 I) (Dq I (DU (v:=fnV 184) I I I (fun w=>by kernel_rfl)) (d_t I (EV [] (aW h ht b m sq hB hf) I I I I call184 I Tt ?_)))))))))))))))))
   rintro y ⟨hbh,hk,hy⟩
   refine Pw (St _ _ (_::HQ.H (y))) ?_
   refine d_t I (e_q I I (AE I I) (AK (Ks (Do8 (rg 13) 1062882 _ I St.drawn Ih (Dm I (Dc I (Dfa BT I Z3 I (Dq I (Ao I G3 I (Hat 0 I) (Wr.mid _ (j:=0) I)) (Dq I (Qe I) (Dm I (Dm I (Dc I (Dfa BT I Z44 I (Dq I (Ao I G44 I (Hat 0 I) (Wr.mid _ (j:=3) I)) (Das I (Das I (d_t I (e_q I I (AE I I) (AK (Kt (Af (Be (rs:=[.tmp 6,.tmp 7,.tmp 8]) I I ?_))))))))))))))))))))))
   exact fun _ hh=>⟨(br,y),congrArg (fun z=>Ending.returned (Value.tuple #[Value.bool z,.bool _,.int .i64 _])) (I),⟨hbh,hk,hy⟩,hh⟩
 · intro w hE hH
   refine Ey func80 I hH ?_
   refine Cs I (Las I (Las I (Ak I (Ag (Cs I (Lm I (Lc I (Lfa BT I Z3 I (Lq I (Ao I G3 I (Hat 0 I) (Wr.mid _ (j:=0) I)) (Lq I (Qn I) (Lm I (Sb 14 true I (I) (Lm I (Lm I (Lc I (Lfa BT I Z3 I (Lo G3 0 I (l_e I (Ee [_] (GF h t) I call82 Tt (fun _ _=>Pw (St _ _ (_::HQ.H (x))) ?_))))))))))))))))))))
   refine Sv' 20 (.bool true) I (by rw[hmay]) (Lq I (Qy I) (Nk (Ai I (Do8 [1,2,3,4,6,7,8,0,5,9,10] 159651 (fun w2=>(WRE b (⟨t,m,3,true,(.pointer none),0⟩:Wr)).at w2) I St.drawn (Hat 0 I) (Dm I (Dc I (Dfa BT I Z3 I (Dq I (Ao I G3 I Ih (Wr.mid _ (j:=0) I)) (Dm I (Dm I (Dm I (d_e I (E1 (FH) I call124 Tt (fun _ _=>Aj (Hat 0 I) (Dq I (DU (v:=fnV 185) I I I (fun w=>by kernel_rfl)) (d_t I (EV [] (VO h ht b m sq hsq hf hlf hri hri2 hwr hhs hft hsm2) I I I I call185 I Tt ?_)))))))))))))))))
   rintro y ⟨hbh,hk,hy⟩
   refine Pw (St _ _ (_::HQ.H (y))) ?_
   refine d_t I (e_q I I (AE I I) (AK (Ks (Do8 (rg 13) 1062882 _ I St.drawn Ih (Dm I (Dc I (Dfa BT I Z3 I (Dq I (Ao I G3 I (Hat 0 I) (Wr.mid _ (j:=0) I)) (Dq I (Qe I) (Dm I (Dm I (Dc I (Dfa BT I Z44 I (Dq I (Ao I G44 I (Hat 0 I) (Wr.mid _ (j:=3) I)) (Das I (Das I (d_t I (e_q I I (AE I I) (AK (Kt (Af (Be (rs:=[.tmp 6,.tmp 7,.tmp 8]) I I ?_))))))))))))))))))))))
   exact fun _ hh=>⟨(br,y),congrArg (fun z=>Ending.returned (Value.tuple #[Value.bool z,.bool _,.int .i64 _])) (I),⟨hbh,hk,hy⟩,hh⟩
 · intro w hE hH
   refine Ey func80 I hH ?_
   refine Cs I (Las I (Las I (Ak I (Ag (Cs I (Lm I (Lc I (Lfa BT I Z3 I (Lq I (Ao I G3 I (Hat 0 I) (Wr.mid _ (j:=0) I)) (Lq I (Qn I) (Lm I (Sb 14 true I (I) (Lm I (Lm I (Lc I (Lfa BT I Z3 I (Lo G3 0 I (l_e I (Ee [_] (GF h t) I call82 Tt (fun _ _=>Pw (St _ _ (_::HQ.H (x))) ?_))))))))))))))))))))
   refine Sv' 20 (.bool true) I (by rw[hmay]) (Lq I (Qy I) (Nk (Ai I (Do8 [1,2,3,4,6,7,8,0,5,9,10] 159651 (fun w2=>(WRE b (⟨t,m,3,true,(.pointer none),0⟩:Wr)).at w2) I St.drawn (Hat 0 I) (Dm I (Dc I (Dfa BT I Z3 I (Dq I (Ao I G3 I Ih (Wr.mid _ (j:=0) I)) (Dm I (Dm I (Dm I (d_e I (E1 (FH) I call124 Tt (fun _ _=>Aj (Hat 0 I) (Dq I (DU (v:=fnV 185) I I I (fun w=>by kernel_rfl)) (d_t I (EV [] (VP h ht b m sq hsq hf hlf hri hri2 hwr hhs hft hsm2) I I I I call185 I Tt ?_)))))))))))))))))
   rintro y ⟨hbh,hk,hy⟩
   refine Pw (St _ _ (_::HQ.H (y))) ?_
   refine d_t I (e_q I I (AE I I) (AK (Ks (Do8 (rg 13) 1062882 _ I St.drawn Ih (Dm I (Dc I (Dfa BT I Z3 I (Dq I (Ao I G3 I (Hat 0 I) (Wr.mid _ (j:=0) I)) (Dq I (Qe I) (Dm I (Dm I (Dc I (Dfa BT I Z44 I (Dq I (Ao I G44 I (Hat 0 I) (Wr.mid _ (j:=3) I)) (Das I (Das I (d_t I (e_q I I (AE I I) (AK (Kt (Af (Be (rs:=[.tmp 6,.tmp 7,.tmp 8]) I I ?_))))))))))))))))))))))
   exact fun _ hh=>⟨(br,y),congrArg (fun z=>Ending.returned (Value.tuple #[Value.bool z,.bool _,.int .i64 _])) (I),⟨hbh,hk,hy⟩,hh⟩
 · intro w hE hH
   refine Ey func80 I hH ?_
   refine Cs I (Las I (Las I (Ak I (Ag (Cs I (Lm I (Lc I (Lfa BT I Z3 I (Lq I (Ao I G3 I (Hat 0 I) (Wr.mid _ (j:=0) I)) (Lq I (Qn I) (Lm I (Sb 14 true I (I) (Lm I (Lm I (Lc I (Lfa BT I Z3 I (Lo G3 0 I (l_e I (Ee [_] (GF h t) I call82 Tt (fun _ _=>Pw (St _ _ (_::HQ.H (x))) ?_))))))))))))))))))))
   refine Sv' 20 (.bool true) I (by rw[hmay]) (Lq I (Qy I) (Nk (Ai I (Do8 [1,2,3,4,6,7,8,0,5,9,10] 159651 (fun w2=>(WRE b (⟨t,m,3,true,(.pointer none),0⟩:Wr)).at w2) I St.drawn (Hat 0 I) (Dm I (Dc I (Dfa BT I Z3 I (Dq I (Ao I G3 I Ih (Wr.mid _ (j:=0) I)) (Dm I (Dm I (Dm I (d_e I (E1 (FH) I call124 Tt (fun _ _=>Aj (Hat 0 I) (Dq I (DU (v:=fnV 185) I I I (fun w=>by kernel_rfl)) (d_t I (EV [] (VQ h b m sq hsq hf hlf hri hri2 hft) I I I I call185 I Tt ?_)))))))))))))))))
   rintro bq _
   refine Pw (St _ _ (_::_::HQ.H (x))) ?_
   refine d_t I (e_q I I (AE I I) (AK (Ks (Do8 (rg 13) 1062882 _ I St.drawn Ih (Dm I (Dc I (Dfa BT I Z3 I (Dq I (Ao I G3 I (Hat 1 I) (Wr.mid _ (j:=0) I)) (Dq I (Qe I) (Dm I (Dm I (Dc I (Dfa BT I Z44 I (Dq I (Ao I G44 I (Hat 1 I) (Wr.mid _ (j:=3) I)) (Das I (Das I (d_t I (e_q I I (AE I I) (AK (Kt (Af (Be (rs:=[.tmp 6,.tmp 7,.tmp 8]) I I ?_))))))))))))))))))))))
   exact fun _ hh=>⟨(bq,x),congrArg (fun z=>Ending.returned (Value.tuple #[Value.bool z,.bool _,.int .i64 _])) (I),⟨rfl,h,rfl⟩,hh⟩
 · intro w hE hH
   refine Ey func80 I hH ?_
   refine Cs I (Las I (Las I (Ak I (Ag (Cs I (Lm I (Lc I (Lfa BT I Z3 I (Lq I (Ao I G3 I (Hat 1 I) (Wr.mid _ (j:=0) I)) (Lq I (Qn I) (Lm I (Sb 14 true I (I) (Lm I (Lm I (Lc I (Lfa BT I Z3 I (Lo G3 1 I (l_e I (Ee [_,_] (GF h t) I call82 Tt (fun _ _=>Pw (St _ _ (_::_::HQ.H (x))) ?_))))))))))))))))))))
   refine Sv' 20 (.bool true) I (by rw[hmay]) (Lq I (Qy I) (Nk (Ai I (Do8 [1,2,3,4,6,7,8,0,5,9,10] 159651 (fun w2=>(WRE b (⟨t,m,4,true,(ptV br),0⟩:Wr)).at w2) I St.drawn (Hat 1 I) (Dm I (Dc I (Dfa BT I Z3 I (Dq I (Ao I G3 I Ih (Wr.mid _ (j:=0) I)) (Dm I (Dm I (Dm I (d_e I (E1 (FH) I call124 Tt (fun _ _=>Aj (Hat 1 I) (Dq I (DU (v:=fnV 186) I I I (fun w=>by kernel_rfl)) (d_t I (EV [] (aY h ht hmay br hf hR hl b m sq) I I I I call186 I Tt ?_)))))))))))))))))
   rintro y ⟨hbh,hk,hy⟩
   refine Pw (St _ _ (_::_::HQ.H (y))) ?_
   refine d_t I (e_q I I (AE I I) (AK (Ks (Do8 (rg 13) 1062882 _ I St.drawn Ih (Dm I (Dc I (Dfa BT I Z3 I (Dq I (Ao I G3 I (Hat 1 I) (Wr.mid _ (j:=0) I)) (Dq I (Qe I) (Dm I (Dm I (Dc I (Dfa BT I Z44 I (Dq I (Ao I G44 I (Hat 1 I) (Wr.mid _ (j:=3) I)) (Das I (Das I (d_t I (e_q I I (AE I I) (AK (Kt (Af (Be (rs:=[.tmp 6,.tmp 7,.tmp 8]) I I ?_))))))))))))))))))))))
   exact fun _ hh=>⟨(br,y),Yn t m br a1 hs en e,⟨hbh,hk,hy⟩,dB _ _ _ _ _ _ _ _ hh⟩
theorem Con.conv {P:Program} {f:FuncId} {vs:List Value} {E:World->Prop} {H:List Ent} {β γ:Type} {u:Value} {p:β->Prop} {p':γ->Prop} {HB:β->List Ent} {HB':γ->List Ent} (s:Con P f vs E H (fun _:β=>u) p HB) (hH:H'=H) (g:β->γ) (hg:∀b,p b->p' (g b)/\HB b=HB' (g b)):Con P f vs E H' (fun _:γ=>u) p' HB':=fun w he hh=>by
 subst hH
 exact (s w he hh).mono (fun e w' ⟨b,h1,h2,h3⟩=>⟨g b,h1,(hg b h2).1,by rw[<-(hg b h2).2];exact h3⟩)
structure Opn where
 kind:Int
 key:ByteArray
 val:ByteArray
 by':Int
 wk:(Lit.int .i64 kind).wf=true
 wb:(Lit.int .u64 by').wf=true
def Opn.c (o:Opn):List Value:=[.int .i64 o.kind,.string o.key,.string o.val,.int .u64 o.by']
theorem Opn.one (o:Opn):∀v∈o.c,v.oneCell'=true:=fun v hv=>by
 simp only[Opn.c,fq,iH,iI] at hv
 rcases hv with rfl|rfl|rfl|rfl<;>rfl
def Opn.enc:Enc Opn:=⟨4,Opn.c,fun _=>rfl,Opn.one,by decide⟩
structure Ans where
 code:Int
 f:Bool
 v:Kv 16
def Ans.c (a:Ans):List Value:=[.int .i64 a.code,.bool a.f]++a.v.c
theorem Ans.e6 (a:Ans):a.c.length=19:=by simp[Ans.c,Kv.e6]
theorem Ans.one (a:Ans):∀v∈a.c,v.oneCell'=true:=fun v hv=>by
 rcases ib.1 hv with h|h
 · simp at h;rcases h with rfl|rfl<;>rfl
 · exact Kv.one _ v h
def Bx:Ans:=⟨0,false,kv0 16⟩
structure Evt where
 cl:Int
 ix:Int
 d:Bool
 a:Ans
def Evt.c (e:Evt):List Value:=[.int .i64 e.cl,.int .i64 e.ix,.bool e.d]++e.a.c
theorem Evt.e6 (e:Evt):e.c.length=22:=by simp[Evt.c,Ans.e6]
theorem Evt.one (e:Evt):∀v∈e.c,v.oneCell'=true:=fun v hv=>by
 rcases ib.1 hv with h|h
 · simp at h;rcases h with rfl|rfl|rfl<;>rfl
 · exact Ans.one _ v h
def Evt.enc:Enc Evt:=⟨22,Evt.c,Evt.e6,Evt.one,by decide⟩
def kOf (o:Opn):Kv 8:=if h:o.key.size<=8 then kof o.key h else kv0 8
def vOf (o:Opn):Kv 16:=if h:o.val.size<=16 then vof o.val h else kv0 16
def mOf (o:Opn):Ms:=⟨o.kind,0,kOf o,if o.kind=1 then vOf o else kv0 16,if o.kind=3 then o.by' else 0,o.wk,by decide,by split<;>first|exact o.wb|decide⟩
structure Opn.Ok (o:Opn):Prop where
 k:o.key.size<=8
 v:o.kind=1->o.val.size<=16
inductive Ph where
 |idle
 |rd (r:Rdr)
 |wr (v:Wv)
def Ph.isI:Ph->Bool
 |.idle=>true
 |_=>false
structure Cl where
 ops:List Opn
 nx:Nat
 ph:Ph
def Cl.op (c:Cl):Opn:=c.ops.getD c.nx ⟨0,⟨#[]⟩,⟨#[]⟩,0,by decide,by decide⟩
def Cl.ended (c:Cl):Bool:=c.ph.isI&&decide (c.nx=c.ops.length)
structure CC where
 b:Nat
 vo:Value
 bw:Nat
 br:Nat
 m:Cl
def CC.ptrs (c:CC):List Value:=match c.m.ph with
 |.idle=>[.pointer none,.pointer none]
 |.rd _=>[ptV c.bw,.pointer none]
 |.wr _=>[.pointer none,ptV c.bw]
def CC.more (t:Int) (c:CC):List Ent:=match c.m.ph with
 |.idle=>[]
 |.rd r=>[RDE c.bw r]
 |.wr v=>v.H t (mOf c.m.op) c.bw c.br
abbrev CLE (b:Nat) (vo:Value) (nx:Nat) (ps:List Value):Ent:=Ad b 125 (vo::.int .i64 (nx:Int)::ps)
def CC.H (t:Int) (c:CC):List Ent:=CLE c.b c.vo c.m.nx c.ptrs::Az c.vo 43 Opn.enc c.m.ops::c.more t
def evB (t:Int) (c:Cl):Evt:=⟨t,c.nx,false,Bx⟩
def evD (t:Int) (c:Cl) (a:Ans):Evt:=⟨t,c.nx,true,a⟩
def Cl.done (c:Cl):Cl:={c with nx:=c.nx+1,ph:=.idle}
def Hm.fi (L:Hm) (b:Int):Nat:=(L.M.frI b 2).getD 0
def Hm.nd (L:Hm) (b:Int):Nd:=(L.M.at' (L.fi b)).nd
theorem Hm.fi_eq {L:Hm} {b:Int} (h:(L.M.frI b 2).isSome=true):L.M.frI b 2=some (L.fi b):=by
 unfold Hm.fi
 cases hx:L.M.frI b 2 with
 |none=>rw[hx] at h;cases h
 |some i=>rfl
def rdS (L:Hm) (r:Rdr):Hm×Rdr×Bool :=
 if r.at'=1 then ((L.pin r.t r.blk).2,r.pinned (L.pin r.t r.blk).1,false)
 else if r.at'=2 then (L.load r.blk ndL,{r with at':=3},false)
 else if r.at'=3 then (L.take (L.fi r.blk) r.t false,if r.abv=true then {r with at':=4} else {r with at':=5},false)
 else if r.at'=4 then (L.leave (L.fi r.par) r.t r.par,{r with at':=5,abv:=false},false)
 else match (L.nd r.blk).kids[FP (L.nd r.blk).piv r.k]? with
  |some kid=>(L,r.down (L.nd r.blk).msgs kid.toNat,false)
  |none=>(L.leave (L.fi r.blk) r.t r.blk,r.fin (L.nd r.blk).es,true)
def ldP (L:Hm) (k:Nat) (t:Int):Prop:=L.s.us[k]?=some true/\Cn (k:Int) L.rd=some t/\∃bk,L.s.bl[k]?=some bk/\bk.l=Dz
def rdP (L:Hm) (r:Rdr):Prop :=
 if r.at'=1 then L.s.us[r.blk]?=some true/\r.blk<=256
 else if r.at'=2 then ldP L r.blk r.t
 else if r.at'=3 then (L.M.frI r.blk 2).isSome=true
 else if r.at'=4 then (L.M.frI r.par 2).isSome=true/\DH (L.lat (L.fi r.par)) r.t=true
 else r.at'=5/\(L.M.frI r.blk 2).isSome=true/\((∃kid:Nat,(L.nd r.blk).kids[FP (L.nd r.blk).piv r.k]?=some (kid:Int)/\DV Ms.key (L.nd r.blk).msgs)\/((L.nd r.blk).kids=[]/\B8 (L.nd r.blk).es/\DH (L.lat (L.fi r.blk)) r.t=true))
theorem Rv (h:x.Ok B) (hB:B+1<=60000) (b:Nat) (r:Rdr) (ht:tkB r.t=true) (hmay:x.hm.may r.t=true) (hp:rdP x.hm r):Con prog 77 [ptV b,ptV x.bh] (fun _=>True) (RDE b r::x.H) (fun _:HQ=>.bool (rdS x.hm r).2.2) (fun y=>y.bh=x.bh/\y.Ok (B+1)/\y.hm=(rdS x.hm r).1) (fun y=>RDE b (rdS x.hm r).2.1::y.H):=by
 have hm1:∀{y:HQ},y.Ok B->y.Ok (B+1):=fun k=>k.mono (by omega) hB
 unfold rdP at hp
 unfold rdS
 by_cases h1:r.at'=1
 · rw[fO h1] at hp
   simp only[h1,gR]
   exact dw h b r ht hmay h1 hB hp.1 hp.2
 rw[fR h1] at hp
 simp only[h1,iL]
 by_cases h2:r.at'=2
 · rw[fO h2] at hp
   obtain⟨hu,hr,bk,hb,he⟩:=hp
   simp only[h2,gR]
   exact Con.conv (aM h b r ht hmay h2 hu hr hb (nd:=ndL) (by rw[he];exact Iw) (JP _)) I id (fun y hy=>⟨⟨hy.1,hm1 hy.2.1,hy.2.2⟩,rfl⟩)
 rw[fR h2] at hp
 simp only[h2,iL]
 by_cases h3:r.at'=3
 · rw[fO h3] at hp
   simp only[h3,gR]
   exact aN h b r ht hmay h3 hB (x.hm.fi_eq hp)
 rw[fR h3] at hp
 simp only[h3,iL]
 by_cases h4:r.at'=4
 · rw[fO h4] at hp
   simp only[h4,gR]
   exact Con.conv (Yi h b r ht hmay h4 (x.hm.fi_eq hp.1) hp.2) I id (fun y hy=>⟨⟨hy.1,hm1 hy.2.1,hy.2.2⟩,rfl⟩)
 rw[fR h4] at hp
 simp only[h4,iL]
 obtain⟨h5,hf,hq⟩:=hp
 rcases hq with⟨kid,hk,hr⟩|⟨hk,hr,hh⟩
 · rw[hk]
   exact Con.conv (aQ h b r ht hmay h5 (x.hm.fi_eq hf) hr hk) I (fun _=>x) (fun y hy=>⟨⟨rfl,hm1 h,rfl⟩,rfl⟩)
 · rw[show (x.hm.nd r.blk).kids[FP (x.hm.nd r.blk).piv r.k]?=none by rw[hk];rfl]
   exact Con.conv (dx h b r ht hmay h5 (x.hm.fi_eq hf) hk hr hh) I id (fun y hy=>⟨⟨hy.1,hm1 hy.2.1,hy.2.2⟩,rfl⟩)
def Hm.ids (L:Hm):Nat×Nat:=((L.s.al 2).1.getD 0 0,(L.s.al 2).1.getD 1 0)
def Hm.grow (L:Hm) (t:Int):Hm:=((({L with s:=(L.s.al 2).2}:Hm).setN 0 ⟨false,[],[(L.ids.1:Int),(L.ids.2:Int)],[((L.nd 0).es.getD (spl (L.nd 0).es) en0).key],[]⟩).name t L.ids.1 (lfN ((L.nd 0).es.take (spl (L.nd 0).es)))).name t L.ids.2 (lfN ((L.nd 0).es.drop (spl (L.nd 0).es)))
structure Zn (L:Hm) (t:Int):Prop where
 hlf:(L.nd 0).leaf=true
 hbd:∀e∈(L.nd 0).es,e.Bd
 h2l:2<=(L.nd 0).es.length
 hpos:0<lby (L.nd 0).es
 hn3:(L.nd 0).es.length<=30000
 hls:2<=L.s.left
 hal:∀j,j<2->∃k,(L.s.al j).2.fr=some k
 hal2:(L.s.al 2).1=[L.ids.1,L.ids.2]
 hne:L.ids.1≠L.ids.2
 hia:idB L.ids.1=true
 hib:idB L.ids.2=true
 hua:(L.s.al 2).2.us[L.ids.1]?=some true
 hub:(L.s.al 2).2.us[L.ids.2]?=some true
 hwr:(L.lat (L.fi 0)).wr=t
 hfr:Fk ⟨false,[],[(L.ids.1:Int),(L.ids.2:Int)],[((L.nd 0).es.getD (spl (L.nd 0).es) en0).key],[]⟩=true
 hsr:(⟨false,[],[(L.ids.1:Int),(L.ids.2:Int)],[((L.nd 0).es.getD (spl (L.nd 0).es) en0).key],[]⟩:Nd).Sm 1000
 hfx:Fk (lfN ((L.nd 0).es.take (spl (L.nd 0).es)))=true
 hsx:(lfN ((L.nd 0).es.take (spl (L.nd 0).es))).Sm 1000
 hfy:Fk (lfN ((L.nd 0).es.drop (spl (L.nd 0).es)))=true
 hsy:(lfN ((L.nd 0).es.drop (spl (L.nd 0).es))).Sm 1000
def wrS (t:Int) (L:Hm) (m:Ms) (v:Wv):Hm×Wv×Bool :=
 if v.a=0 then ((L.pin t ((0:Nat):Int)).2,⟨(Ki (L.pin t ((0:Nat):Int)).1).1,(Ki (L.pin t ((0:Nat):Int)).1).2,none,0⟩,false)
 else if v.a=1 then (L.load 0 ndL,⟨2,true,none,0⟩,false)
 else if v.a=2 then (L.take (L.fi 0) t true,⟨3,true,none,0⟩,false)
 else if v.a=3 then
  if (L.nd 0).leaf=true then
   if Cd (Cb (L.nd 0) m)=true then ((L.setN 0 (Cb (L.nd 0) m)).leave (L.fi 0) t 0,⟨5,false,none,0⟩,true) else (L,⟨4,true,some (1,true,0),0⟩,false)
  else ((L.setN 0 (CJ (L.nd 0) m)).leave (L.fi 0) t 0,⟨5,false,none,0⟩,true)
 else match v.r with
  |some (a0,_,_) =>
   if a0=1 then (L,⟨4,true,some (6,true,0),0⟩,false)
   else if a0=6 then ((L.claim t).2,⟨4,true,some (7,true,0),0⟩,false)
   else if a0=7 then ((L.claim t).2,⟨4,true,some (10,true,0),0⟩,false)
   else if L.s.left<2 then ((L.give t).leave (L.fi 0) t 0,⟨5,false,none,3⟩,false)
   else (L.grow t,⟨3,true,none,0⟩,false)
  |none=>(L,v,false)
def wrP (t:Int) (L:Hm) (m:Ms) (v:Wv):Prop :=
 if v.a=0 then v=⟨0,false,none,0⟩/\L.s.us[0]?=some true
 else if v.a=1 then v=⟨1,true,none,0⟩/\ldP L 0 t
 else if v.a=2 then v=⟨2,true,none,0⟩/\(L.M.frI 0 2).isSome=true
 else if v.a=3 then v=⟨3,true,none,0⟩/\(L.M.frI 0 2).isSome=true/\(L.lat (L.fi 0)).wr=t/\DH (L.lat (L.fi 0)) t=true /\
  (if (L.nd 0).leaf=true then B8 (L.nd 0).es/\B8 (Bu (L.nd 0).es m)/\(Cd (Cb (L.nd 0) m)=true->(Cb (L.nd 0) m).Sm 1000)
   else DV Ms.key (L.nd 0).msgs/\DV Ms.key (DW (L.nd 0).msgs m)/\GC (CJ (L.nd 0) m)=true/\(CJ (L.nd 0) m).Sm 1000)
 else ∃a0,v=⟨4,true,some (a0,true,0),0⟩/\(L.M.frI 0 2).isSome=true /\
  ((a0=1/\(L.nd 0).leaf=true/\2<=(L.nd 0).es.length)\/(a0=6/\(L.claim t).1=true)\/(a0=7/\(L.claim t).1=true) \/
   (a0=10/\2<=L.M.claims t/\(L.s.left<2->(L.give t).M.frI 0 2=some (L.fi 0)/\DH (L.lat (L.fi 0)) t=true)/\(¬L.s.left<2->Zn L t)))
theorem aZ (hB:B+1<=60000) {t:Int} {m:Ms} {sq:Int} (hsq:(Lit.int .u64 sq).wf=true) {v:Wv} (hp:wrP t x.hm (m.e9 sq hsq) v):∃B2,B2<=B+1/\B<=B2/\WS x B t m sq v (wrS t x.hm (m.e9 sq hsq) v).2.1 (wrS t x.hm (m.e9 sq hsq) v).2.2 (wrS t x.hm (m.e9 sq hsq) v).1 B2:=by
 unfold wrP at hp
 unfold wrS
 by_cases h0:v.a=0
 · rw[fO h0] at hp
   obtain⟨rfl,hu⟩:=hp
   exact⟨B+1,ga _,by omega,WS.pin hB hu⟩
 rw[fR h0] at hp
 simp only[h0,iL]
 by_cases h1:v.a=1
 · rw[fO h1] at hp
   obtain⟨rfl,hu,hr,bk,hb,he⟩:=hp
   exact⟨B,by omega,ga _,WS.load hu hr hb (nd:=ndL) (by rw[he];exact Iw) (JP _)⟩
 rw[fR h1] at hp
 simp only[h1,iL]
 by_cases h2:v.a=2
 · rw[fO h2] at hp
   obtain⟨rfl,hf⟩:=hp
   exact⟨B+1,ga _,by omega,WS.take hB (x.hm.fi_eq hf)⟩
 rw[fR h2] at hp
 simp only[h2,iL]
 by_cases h3:v.a=3
 · rw[fO h3] at hp
   obtain⟨rfl,hf,hw,hh,hq⟩:=hp
   have hf':=x.hm.fi_eq hf
   simp only[gR]
   refine⟨B,by omega,ga _,?_⟩
   by_cases hl:(x.hm.nd 0).leaf=true
   · rw[fO hl] at hq
     rw[fO hl]
     by_cases hft:Cd (Cb (x.hm.nd 0) (m.e9 sq hsq))=true
     · rw[fO hft]
       exact WS.leaf hsq hf' hl hq.1 hq.2.1 hw hh hft (hq.2.2 hft)
     · rw[fR hft]
       exact WS.no hsq hf' hl hq.1 hq.2.1 (iv.2 hft)
   · rw[fR hl] at hq
     rw[fR hl]
     exact WS.inner hsq hf' (iv.2 hl) hq.1 hq.2.1 hw hh hq.2.2.1 hq.2.2.2
 rw[fR h3] at hp
 simp only[h3,iL]
 obtain⟨a0,rfl,hf,hq⟩:=hp
 have hf':=x.hm.fi_eq hf
 dsimp only
 rcases hq with⟨rfl,hl,hn⟩|⟨rfl,hc⟩|⟨rfl,hc⟩|⟨rfl,hcl,hfu,hgr⟩
 · exact⟨B,by omega,ga _,WS.room hf' (RS.choose hl hn) (fun h=>by cases h)⟩
 · exact⟨B+1,ga _,by omega,WS.room hf' (RS.first hB hc) (fun h=>by cases h)⟩
 · exact⟨B+1,ga _,by omega,WS.room hf' (RS.second hB hc) (fun h=>by cases h)⟩
 · refine⟨B,by omega,ga _,?_⟩
   by_cases hls:x.hm.s.left<2
   · simp only[hls,gR]
     exact WS.room hf' (RS.full hcl hls) (fun _ _=>hfu hls)
   · have g:=hgr hls
     simp only[hls,iL]
     exact WS.room hf' (RS.grow g.hlf g.hbd g.h2l g.hpos g.hn3 hcl g.hls g.hal g.hal2 g.hne g.hia g.hib g.hua g.hub g.hwr g.hfr g.hsr g.hfx g.hsx g.hfy g.hsy) (fun _ h=>by cases h)
theorem dC (vn i0 i1 i2 i3 i4 i5 i6 i7 i8 i9 j0 j1 j2 j3 j4 j5:Int) (f:Bool) (w:World):(Instr.build 58 #[(1,.bool f),(2,.agg [.int .i64 vn,.int .u8 i0,.int .u8 i1,.int .u8 i2,.int .u8 i3,.int .u8 i4,.int .u8 i5,.int .u8 i6,.int .u8 i7,.int .u8 i8,.int .u8 i9,.int .u8 j0,.int .u8 j1,.int .u8 j2,.int .u8 j3,.int .u8 j4,.int .u8 j5].toArray)]).run prog w=.ok (.agg [.int .i64 0,.bool f,.int .i64 vn,.int .u8 i0,.int .u8 i1,.int .u8 i2,.int .u8 i3,.int .u8 i4,.int .u8 i5,.int .u8 i6,.int .u8 i7,.int .u8 i8,.int .u8 i9,.int .u8 j0,.int .u8 j1,.int .u8 j2,.int .u8 j3,.int .u8 j4,.int .u8 j5].toArray) w:=by kernel_rfl
theorem dD (f:Bool) (v:Kv 16) (w:World):(Instr.build 58 #[(1,.bool f),(2,.agg v.c.toArray)]).run prog w=.ok (.agg (Ans.c ⟨0,f,v⟩).toArray) w:=by
 obtain⟨i0,i1,i2,i3,i4,i5,i6,i7,i8,i9,j0,j1,j2,j3,j4,j5,hv⟩:=Kh v
 have e1:v.c=[.int .i64 v.n,.int .u8 i0,.int .u8 i1,.int .u8 i2,.int .u8 i3,.int .u8 i4,.int .u8 i5,.int .u8 i6,.int .u8 i7,.int .u8 i8,.int .u8 i9,.int .u8 j0,.int .u8 j1,.int .u8 j2,.int .u8 j3,.int .u8 j4,.int .u8 j5]:=by unfold Kv.c;rw[hv];rfl
 unfold Ans.c
 dsimp only
 rw[e1]
 exact dC v.n i0 i1 i2 i3 i4 i5 i6 i7 i8 i9 j0 j1 j2 j3 j4 j5 f w
theorem eE (t k code vn i0 i1 i2 i3 i4 i5 i6 i7 i8 i9 j0 j1 j2 j3 j4 j5:Int) (f:Bool) (w:World):(Instr.build 71 #[(0,.int .i64 t),(1,.int .i64 k),(2,.bool true),(3,.agg [.int .i64 code,.bool f,.int .i64 vn,.int .u8 i0,.int .u8 i1,.int .u8 i2,.int .u8 i3,.int .u8 i4,.int .u8 i5,.int .u8 i6,.int .u8 i7,.int .u8 i8,.int .u8 i9,.int .u8 j0,.int .u8 j1,.int .u8 j2,.int .u8 j3,.int .u8 j4,.int .u8 j5].toArray)]).run prog w=.ok (.agg [.int .i64 t,.int .i64 k,.bool true,.int .i64 code,.bool f,.int .i64 vn,.int .u8 i0,.int .u8 i1,.int .u8 i2,.int .u8 i3,.int .u8 i4,.int .u8 i5,.int .u8 i6,.int .u8 i7,.int .u8 i8,.int .u8 i9,.int .u8 j0,.int .u8 j1,.int .u8 j2,.int .u8 j3,.int .u8 j4,.int .u8 j5].toArray) w:=by kernel_rfl
theorem bev (t k:Int) (a:Ans) (w:World):(Instr.build 71 #[(0,.int .i64 t),(1,.int .i64 k),(2,.bool true),(3,.agg a.c.toArray)]).run prog w=.ok (.agg (Evt.c ⟨t,k,true,a⟩).toArray) w:=by
 obtain⟨code,f,v⟩:=a
 obtain⟨i0,i1,i2,i3,i4,i5,i6,i7,i8,i9,j0,j1,j2,j3,j4,j5,hv⟩:=Kh v
 have e1:v.c=[.int .i64 v.n,.int .u8 i0,.int .u8 i1,.int .u8 i2,.int .u8 i3,.int .u8 i4,.int .u8 i5,.int .u8 i6,.int .u8 i7,.int .u8 i8,.int .u8 i9,.int .u8 j0,.int .u8 j1,.int .u8 j2,.int .u8 j3,.int .u8 j4,.int .u8 j5]:=by unfold Kv.c;rw[hv];rfl
 unfold Evt.c Ans.c
 dsimp only
 rw[e1]
 exact eE t k code v.n i0 i1 i2 i3 i4 i5 i6 i7 i8 i9 j0 j1 j2 j3 j4 j5 f w
theorem dE (ki kn a b c d e f g h:Int) (w:World):(Instr.build 154 #[(0,.int .i64 ki),(2,.agg [.int .i64 kn,.int .u8 a,.int .u8 b,.int .u8 c,.int .u8 d,.int .u8 e,.int .u8 f,.int .u8 g,.int .u8 h].toArray)]).run prog w=.ok (.agg [.int .i64 ki,.int .u64 0,.int .i64 kn,.int .u8 a,.int .u8 b,.int .u8 c,.int .u8 d,.int .u8 e,.int .u8 f,.int .u8 g,.int .u8 h,.int .i64 0,.int .u8 0,.int .u8 0,.int .u8 0,.int .u8 0,.int .u8 0,.int .u8 0,.int .u8 0,.int .u8 0,.int .u8 0,.int .u8 0,.int .u8 0,.int .u8 0,.int .u8 0,.int .u8 0,.int .u8 0,.int .u8 0,.int .u64 0].toArray) w:=by kernel_rfl
theorem VT (ki:Int) (hk:(Lit.int .i64 ki).wf=true) (k:Kv 8) (w:World):(Instr.build 154 #[(0,.int .i64 ki),(2,.agg k.c.toArray)]).run prog w=.ok (.agg (Ms.c ⟨ki,0,k,kv0 16,0,hk,by decide,by decide⟩).toArray) w:=by
 obtain⟨a,b,c,d,e,f,g,h,hb⟩:=F3 k
 have e1:k.c=[.int .i64 k.n,.int .u8 a,.int .u8 b,.int .u8 c,.int .u8 d,.int .u8 e,.int .u8 f,.int .u8 g,.int .u8 h]:=by unfold Kv.c;rw[hb];rfl
 unfold Ms.c
 dsimp only
 rw[e1]
 exact dE ki k.n a b c d e f g h w
abbrev HSE (bH:Nat) (vh:Value) (bt:Nat) (vT vO vE:Value) (sq pk:Int):Ent:=Ad bH 100 [vh,ptV bt,vT,vO,vE,.int .u64 sq,.int .i64 pk]
theorem Rw (b bw nx:Nat) (vo:Value):Con prog 75 [ptV b] (fun _=>True) [CLE b vo nx [.pointer none,.pointer none]] (fun _:Unit=>.bool false) (fun _=>True) (fun _=>[CLE b vo nx [.pointer none,.pointer none]]):=by
 intro w hE hH
 refine Ey func75 I hH ?_
 refine Cs I (Ak I (Cs I (Lm I (Lc I (Lfa Db I GB I (Lo I9 0 I (Lq I (DR I Mc I I) (Lm I (Sb 8 false I (I) (Lm I (Lc I (Lfa Db I F1 I (Lo Md 0 I (Lq I (DR I Sd I I) (Lq I (Qz I) (Ak I (Af (An I I ?_))))))))))))))))))
 exact fun _ h=>⟨(),rfl,trivial,h⟩
theorem VU (b bw nx:Nat) (vo:Value):Con prog 75 [ptV b] (fun _=>True) [CLE b vo nx [ptV bw,.pointer none]] (fun _:Unit=>.bool true) (fun _=>True) (fun _=>[CLE b vo nx [ptV bw,.pointer none]]):=by
 intro w hE hH
 refine Ey func75 I hH ?_
 refine Cs I (Ak I (Cs I (Lm I (Lc I (Lfa Db I GB I (Lo I9 0 I (Lq I (DR I Mc I I) (Lm I (Sb 8 true I (I) (Lx I (Lx I (Lx I (Lx I (Lx I (Lq I (Qy I) (Ak I (Af (An I I ?_))))))))))))))))))
 exact fun _ h=>⟨(),rfl,trivial,h⟩
theorem VV (b bw nx:Nat) (vo:Value):Con prog 75 [ptV b] (fun _=>True) [CLE b vo nx [.pointer none,ptV bw]] (fun _:Unit=>.bool true) (fun _=>True) (fun _=>[CLE b vo nx [.pointer none,ptV bw]]):=by
 intro w hE hH
 refine Ey func75 I hH ?_
 refine Cs I (Ak I (Cs I (Lm I (Lc I (Lfa Db I GB I (Lo I9 0 I (Lq I (DR I Mc I I) (Lm I (Sb 8 false I (I) (Lm I (Lc I (Lfa Db I F1 I (Lo Md 0 I (Lq I (DR I Sd I I) (Lq I (Qz I) (Ak I (Af (An I I ?_))))))))))))))))))
 exact fun _ h=>⟨(),rfl,trivial,h⟩
theorem OD (b bw nx:Nat) (vo:Value) (ops:List Opn):Con prog 37 [ptV b] (fun _=>True) [CLE b vo nx [.pointer none,.pointer none],Az vo 43 Opn.enc ops] (fun _:Unit=>.bool (decide (nx=ops.length))) (fun _=>True) (fun _=>[CLE b vo nx [.pointer none,.pointer none],Az vo 43 Opn.enc ops]):=by
 intro w hE hH
 refine Ey func37 I hH ?_
 refine Cs I (Ak I (Ag (Do8 (rg 16) 41452401 (fun w2=>(CLE b vo nx [.pointer none,.pointer none]).at w2/\RdV w2 vo Opn.enc ops) I St.drawn (fun _ h=>⟨h.at 0 rfl,h.rd 1 rfl⟩) (Dm I (d_e I (Bg (Rw b 0 nx vo) I I I call75 I Tt (fun _ _=>Aj (fun _ h=>⟨h.at 0 rfl,h.rd 1 rfl⟩) (Dq I (Qt I) (Dm I (Dm I (Dc I (Dfa Db I Z3 I (Dq I (Ao I G3 I (fun _ h=>h.1) I) (Dm I (Dc I (Dfa Db I Z40 I (Dq I (Ao I G40 I (fun _ h=>h.1) I) (Dq I (AL I U40 I (fun _ h=>h.2)) (d_t I (e_q I I (Qe I) (d_t I (e_q I I (Qy I) (d_t I (e_q I I (AE I I) (AK (Kt (Af (An I I ?_))))))))))))))))))))))))))))
 exact fun _ h=>⟨(),congrArg (fun z=>Ending.returned (Value.bool z)) (by rw[jF];omega),trivial,h⟩
theorem Yo (b bw nx:Nat) (vo:Value) (ops:List Opn):Con prog 37 [ptV b] (fun _=>True) [CLE b vo nx [ptV bw,.pointer none],Az vo 43 Opn.enc ops] (fun _:Unit=>.bool (false)) (fun _=>True) (fun _=>[CLE b vo nx [ptV bw,.pointer none],Az vo 43 Opn.enc ops]):=by
 intro w hE hH
 refine Ey func37 I hH ?_
 refine Cs I (Ak I (Ag (Do8 (rg 16) 41452401 (fun w2=>(CLE b vo nx [ptV bw,.pointer none]).at w2/\RdV w2 vo Opn.enc ops) I St.drawn (fun _ h=>⟨h.at 0 rfl,h.rd 1 rfl⟩) (Dm I (d_e I (Bg (VU b bw nx vo) I I I call75 I Tt (fun _ _=>Aj (fun _ h=>⟨h.at 0 rfl,h.rd 1 rfl⟩) (Dq I (Qt I) (Dm I (Dx I (Dx I (Dx I (Dx I (Dx I (Dx I (Dx I (Dx I (Dx I (Dx I (d_t I (e_q I I (Qz I) (d_t I (e_q I I (AE I I) (AK (Kt (Af (An I I ?_)))))))))))))))))))))))))))
 exact fun _ h=>⟨(),rfl,trivial,h⟩
theorem Yp (b bw nx:Nat) (vo:Value) (ops:List Opn):Con prog 37 [ptV b] (fun _=>True) [CLE b vo nx [.pointer none,ptV bw],Az vo 43 Opn.enc ops] (fun _:Unit=>.bool (false)) (fun _=>True) (fun _=>[CLE b vo nx [.pointer none,ptV bw],Az vo 43 Opn.enc ops]):=by
 intro w hE hH
 refine Ey func37 I hH ?_
 refine Cs I (Ak I (Ag (Do8 (rg 16) 41452401 (fun w2=>(CLE b vo nx [.pointer none,ptV bw]).at w2/\RdV w2 vo Opn.enc ops) I St.drawn (fun _ h=>⟨h.at 0 rfl,h.rd 1 rfl⟩) (Dm I (d_e I (Bg (VV b bw nx vo) I I I call75 I Tt (fun _ _=>Aj (fun _ h=>⟨h.at 0 rfl,h.rd 1 rfl⟩) (Dq I (Qt I) (Dm I (Dx I (Dx I (Dx I (Dx I (Dx I (Dx I (Dx I (Dx I (Dx I (Dx I (d_t I (e_q I I (Qz I) (d_t I (e_q I I (AE I I) (AK (Kt (Af (An I I ?_)))))))))))))))))))))))))))
 exact fun _ h=>⟨(),rfl,trivial,h⟩
theorem FI (bH bt:Nat) (vh vT vO vE:Value) (sq pk:Int) (ev:List Evt) (hev:ev.length<=60000) (b nx:Nat) (hnx:nx<=1000) (t:Int) (vo p1 p2:Value) (a:Ans):Con prog 79 [ptV bH,.int .i64 t,ptV b,.agg a.c.toArray] (fun _=>True) [HSE bH vh bt vT vO vE sq pk,Az vE 71 Evt.enc ev,CLE b vo nx [p1,p2]] (fun v:Value=>.tuple #[]) (fun _=>True) (fun v=>[HSE bH vh bt vT vO v sq pk,Az v 71 Evt.enc (ev++[⟨t,(nx:Int),true,a⟩]),CLE b vo (nx+1) [.pointer none,.pointer none]]):=by
 intro w hE hH
 refine Ey func79 I hH ?_
 refine Cs I (l_e I (AQ I I I I (fun ba=>Ce a.c I (Ns (Do8 (rg 17) 126482958 (fun w2=>(HSE bH vh bt vT vO vE sq pk).at w2/\(CLE b vo nx [p1,p2]).at w2/\(Ad ba 58 a.c).at w2) I St.drawn (fun _ h=>⟨h.at 1 rfl,h.at 3 rfl,h.at 0 rfl⟩) (Dm I (Dm I (Dc I (Dfa Co I Z34 I (Dq I (Ao I isAgg34 I (fun _ h=>h.1) I) (Dm I (Dm I (Dc I (Dfa Db I Z3 I (Dq I (Ao I G3 I (fun _ h=>h.2.1) I) (Dq I (AP (a.c) I G58 Z58 I (fun _ h=>h.2.2) (fZ (by rw[fV,Ans.e6];decide)) (Ans.e6 _)) (Dq I (AN (Evt.c ⟨t,(nx:Int),true,a⟩) I I (bev t (nx:Int) a)) (d_e I (Ax (sz:=22) [.tmp 19] I I I I I U34 Z71 I zeroValue71 (by simp[Value.cells,Evt.e6]) (fun b2=>Aj (fun _ h=>⟨h.at 2 rfl,h.at 4 rfl,h.at 1 rfl⟩) (DS (d_e I (Ap U34 U34 Pp I (fun _ h=>AW (h.at 1 I) Evt.enc [(⟨t,(nx:Int),true,a⟩:Evt)] I I) (by simp only[fL,fv,jn];omega) (fun v2=>AM (Av (Aj (fun _ h=>⟨h.at 2 rfl,h.at 3 rfl,h.at 1 rfl⟩) (d_t I (e_q I I (Bt I I) (d_t I (e_q I I (Ba I Co I Z34 I I) (Pre.fact (fun _ h=>B0 (h.at 0 I)) ?_)))))))))))))))))))))))))))))))
 rintro⟨av,cv,hv2⟩
 refine AV (d_t I (AF I I Z34 I I (by rw[hv2];rfl) (iy I) (Ce [vh,ptV bt,vT,vO,v2,.int .u64 sq,.int .i64 pk] I (AK (Kt (Cs I (Lm I (Lm I (Lc I (Lfa Db I GB I (DS (l_e I (AF I I GB I I I (iy I) (Ce [vo,.int .i64 (nx:Int),.pointer none,p2] I (Lc I (Lfa Db I F1 I (l_e I (AF I I F1 I I I (iy I) (Ce [vo,.int .i64 (nx:Int),.pointer none,.pointer none] I (Nk (Cr I (Lm I (Lc I ?_)))))))))))))))))))))))
 refine Lfa Db I Z3 I (Lo G3 0 I (Lq I (Qi I (by omega)) (Lc I (Lfa Db I Z3 I (l_e I (AF I I Z3 I I I (iy I) (Ce [vo,.int .i64 ((nx+1:Nat):Int),.pointer none,.pointer none] I (AB (Bl (Pm [3,1,1] I (Av (Bv I ?_))))))))))))
 exact fun _ h=>⟨v2,rfl,trivial,h⟩
def m0 (o:Opn):Ms:=⟨o.kind,0,kOf o,kv0 16,0,o.wk,by decide,by decide⟩
theorem Rx {o:Opn} (h:o.kind=1):mOf o=(m0 o).setVal (vOf o):=Ms.ext' rfl rfl rfl (by show (if o.kind=1 then vOf o else kv0 16)=vOf o;rw[fO h]) (by show (if o.kind=3 then o.by' else 0)=0;rw[fR (by rw[h];decide)])
theorem Ry {o:Opn} (h:o.kind=3):mOf o=(m0 o).setBy o.by' o.wb:=Ms.ext' rfl rfl rfl (by show (if o.kind=1 then vOf o else kv0 16)=kv0 16;rw[fR (by rw[h];decide)]) (by show (if o.kind=3 then o.by' else 0)=o.by';rw[fO h])
theorem bu {o:Opn} (h:o.val.size<=16):vOf o=vof o.val h:=by unfold vOf;rw[dif_pos h]
theorem dF (t:Int) (k:Kv 8):Con prog 127 [.int .i64 t,.agg k.c.toArray] (fun _=>True) [] (fun bw:Nat=>ptV bw) (fun _=>True) (fun bw=>[RDE bw (⟨t,k,1,0,0,false,false,ms0,false,kv0 16,false⟩:Rdr)]):=by
 intro w hE hH
 refine E0 func127 I hH ?_
 refine Cs I (l_e I (AQ I I I I (fun bk=>Ce k.c I (Ak I (Cs I (Lm I (Lq I (Cq (k.c) G77 Z77 0 I (AY _) (Kv.e6 _)) (Lq I (AN (Rdr.c (⟨t,k,1,0,0,false,false,ms0,false,kv0 16,false⟩:Rdr)) I I (VN t k)) (l_e I (AQ I I I I (fun bw=>Ce (Rdr.c (⟨t,k,1,0,0,false,false,ms0,false,kv0 16,false⟩:Rdr)) I (Ak I (Af (AM (Av (An I I ?_))))))))))))))))
 exact fun _ h=>⟨bw,rfl,trivial,h⟩
theorem VW (t:Int) (m:Ms):Con prog 128 [.int .i64 t,.agg m.c.toArray] (fun _=>True) [] (fun bw:Nat=>ptV bw) (fun _=>True) (fun bw=>[WRE bw ⟨t,m,0,false,.pointer none,0⟩]):=by
 intro w hE hH
 refine E0 func128 I hH ?_
 refine Cs I (l_e I (AQ I I I I (fun bm=>Ce m.c I (Ak I (Cs I (Lm I (Lq I (Cq (m.c) Cm Bi 0 I (Bm _) (Ms.e6 _)) (Lq I (AN (Wr.c ⟨t,m,0,false,.pointer none,0⟩) I I (VM t m)) (l_e I (AQ I I I I (fun bw=>Ce (Wr.c ⟨t,m,0,false,.pointer none,0⟩) I (Ak I (Af (AM (Av (An I I ?_))))))))))))))))
 exact fun _ h=>⟨bw,rfl,trivial,h⟩
def BX (o:Opn):Bool:=!decide (o.key.size<=8)||(decide (o.kind=1)&&!decide (o.val.size<=16))
def rd0 (t:Int) (k:Kv 8):Rdr:=⟨t,k,1,0,0,false,false,ms0,false,kv0 16,false⟩
def bgR (t:Int) (nx:Nat) (o:Opn):Nat×List Evt×(Nat->List Value×List Ent) :=
 if BX o=true then (nx+1,[(⟨t,(nx:Int),false,Bx⟩:Evt),(⟨t,(nx:Int),true,(⟨2,false,kv0 16⟩:Ans)⟩:Evt)],fun _=>([.pointer none,.pointer none],[]))
 else if o.kind=4 then (nx,[(⟨t,(nx:Int),false,Bx⟩:Evt)],fun b=>([ptV b,.pointer none],[RDE b (rd0 t (kOf o))]))
 else (nx,[(⟨t,(nx:Int),false,Bx⟩:Evt)],fun b=>([.pointer none,ptV b],[WRE b ⟨t,mOf o,0,false,.pointer none,0⟩]))
theorem Rz {o:Opn} (h:o.kind=2):mOf o=m0 o:=Ms.ext' rfl rfl rfl (by show (if o.kind=1 then vOf o else kv0 16)=kv0 16;rw[fR (by rw[h];decide)]) (by show (if o.kind=3 then o.by' else 0)=0;rw[fR (by rw[h];decide)])
def mZ (o:Opn):Ms:=⟨o.kind,0,kv0 8,kv0 16,0,o.wk,by decide,by decide⟩
theorem kd3 (o:Opn) (h:o.kind=1\/o.kind=2\/o.kind=3\/o.kind=4):o.kind=1\/o.kind=3\/(o.kind≠1/\o.kind≠3):=by omega
theorem Kj {nx:Nat} {o:Opn} (h:BX o=true):bgR t nx o=(nx+1,[(⟨t,(nx:Int),false,Bx⟩:Evt),(⟨t,(nx:Int),true,(⟨2,false,kv0 16⟩:Ans)⟩:Evt)],fun _=>([.pointer none,.pointer none],[])):=by unfold bgR;rw[fO h]
theorem VX {nx:Nat} {o:Opn} (h:BX o=false) (hk:o.kind=4):bgR t nx o=(nx,[(⟨t,(nx:Int),false,Bx⟩:Evt)],fun b=>([ptV b,.pointer none],[RDE b (rd0 t (kOf o))])):=by unfold bgR;rw[fR (by rw[h];decide),fO hk]
theorem Yq {nx:Nat} {o:Opn} (h:BX o=false) (hk:o.kind=1):bgR t nx o=(nx,[(⟨t,(nx:Int),false,Bx⟩:Evt)],fun b=>([.pointer none,ptV b],[WRE b ⟨t,mOf o,0,false,.pointer none,0⟩])):=by unfold bgR;rw[fR (by rw[h];decide),fR (by rw[hk];decide)]
theorem Yr {nx:Nat} {o:Opn} (h:BX o=false) (hk:o.kind=2):bgR t nx o=(nx,[(⟨t,(nx:Int),false,Bx⟩:Evt)],fun b=>([.pointer none,ptV b],[WRE b ⟨t,mOf o,0,false,.pointer none,0⟩])):=by unfold bgR;rw[fR (by rw[h];decide),fR (by rw[hk];decide)]
theorem Ys {nx:Nat} {o:Opn} (h:BX o=false) (hk:o.kind=3):bgR t nx o=(nx,[(⟨t,(nx:Int),false,Bx⟩:Evt)],fun b=>([.pointer none,ptV b],[WRE b ⟨t,mOf o,0,false,.pointer none,0⟩])):=by unfold bgR;rw[fR (by rw[h];decide),fR (by rw[hk];decide)]
end Go.Proofs.YtloldofjddbjoaaGreat
