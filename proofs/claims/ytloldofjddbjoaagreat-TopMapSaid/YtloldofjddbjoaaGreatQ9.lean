/- Part 9 of the proof. No condition. -/
import Derived.Test.YtloldofjddbjoaaGreatQ8
set_option linter.unusedVariables false
set_option linter.unusedSimpArgs false
set_option maxHeartbeats 8000000
set_option maxRecDepth 100000
namespace Go.Proofs.YtloldofjddbjoaaGreat
open Go.Sep Go.RowKit Tryz
variable {n B j i nb t:Nat} {d:List Bool} {l:List Ca} {x:HQ} {m:List En} {q:List Nat} {b:OpsR} {va vp:Value} {ms:List Ms} {k pv:Kv 8} {z:HC} {α:Type} {ls:List (List Opn)} {o:Opn}
theorem dq {w0:World} {D:List Nat} {l D0 bn bwy bw:Nat} {rec:Loop} (nv:NV) {F:Nat->Value->List Ent} (hps:rec.params.size=2) (hn:nv.d.kids.length<=60000)
 (hround:∀(j:Nat) (kid:Int) (v lv:Value) (w:World),nv.d.kids[j]?=some kid->St w0 D (AA v 3 (AH .i64) [0,kid]::DC l (.loop rec)::DC D0 (.deferred (some []))::([Ad bn 135 nv.c,Ad bwy 22 [.slice (some ⟨bw,0,none⟩) 1 1],BY nv.s.k nv.d.kids,Ad bw 3 [.int .i64 0]]++F j lv)) w->RoundIn FW 0 prog l rec.fn ((rec.params.zip #[.int .i64 (j:Int),v]).foldl (λtmps (t,a)=>tmps.setIfInBounds t a) rec.tmps) rec.assign rec.body w (λe w'=>e=.returned (.bool true)/\∃lv',St w0 D (DC l (.loop rec)::DC D0 (.deferred (some []))::([Ad bn 135 nv.c,Ad bwy 22 [.slice (some ⟨bw,0,none⟩) 1 1],BY nv.s.k nv.d.kids,Ad bw 3 [.int .i64 0]]++F (j+1) lv')) w'))
 {W:World} {lv:Value} (hX:St w0 D (DC l (.loop rec)::DC D0 (.deferred (some []))::([Ad bn 135 nv.c,Ad bwy 22 [.slice (some ⟨bw,0,none⟩) 1 1],BY nv.s.k nv.d.kids,Ad bw 3 [.int .i64 0]]++F 0 lv)) W):Calls prog 106 #[.func (.yield l) #[] #[],ptV bn,ptV bwy] W (λe W'=>∃v lv',e=.returned v/\St w0 D (DC l (.loop rec)::DC D0 (.deferred (some []))::([Ad bn 135 nv.c,Ad bwy 22 [.slice (some ⟨bw,0,none⟩) 1 1],BY nv.s.k nv.d.kids,Ad bw 3 [.int .i64 0]]++F nv.d.kids.length lv')) W'):=by
 refine enter (n:=24) (vs:=[.func (.yield l) #[] #[],pV bn,pV bwy]) (St w0 D (DC l (.loop rec)::DC D0 (.deferred (some []))::([Ad bn 135 nv.c,Ad bwy 22 [.slice (some ⟨bw,0,none⟩) 1 1],BY nv.s.k nv.d.kids,Ad bw 3 [.int .i64 0]]++F 0 lv))) func106 I I I hX ?_
 refine Cs I (Lfa Cu I Z22 I (Lo G22 2 I (Lq I (AJ I U22 I (Hrd 4 I)) (Lm I (Nk (Aj ?_))))))
 refine Cy (λ(i:Nat) (lv:Value)=>[(0,.func (.yield l) #[] #[]),(1,ptV bn),(2,ptV bwy),(7,nv.s.k.v),(8,.int .i64 (nv.d.kids.length:Int)),(9,.int .i64 (i:Int))]) (λ(i:Nat) (lv:Value)=>St w0 D (DC l (.loop rec)::DC D0 (.deferred (some []))::([Ad bn 135 nv.c,Ad bwy 22 [.slice (some ⟨bw,0,none⟩) 1 1],BY nv.s.k nv.d.kids,Ad bw 3 [.int .i64 0]]++F i lv))) (λ(i:Nat) (lv:Value)=>i<=nv.d.kids.length) (λ(i:Nat) (lv:Value)=>nv.d.kids.length-i) (0) (lv) (lK _) (Si I) Ih (λi lv hi=>Cs I (Lq I (Ql I) (Ns ?_)))
 refine CB 10 I (λhlt=>?_) (λhlt=>?_)
 .obtain⟨kid,hk⟩:=gE nv.d.kids i
  refine Ah I (Ae (Ks (Aj (Cs I (Lm I (Lq I (Ar i I U22 Z3 I (Hrd 4 I) I I) (Lq I (AI i 0 I G3 I I (Hrd 4 I) hk I) (Las I (Ak I (Af (VO 7 I I (Mv 2 I (Lo G22 3 I (l_e I (AZ (Lt.clone_spec [0] (by decide)) I I I call107 I (λ_ h=>AY (h.at 5 I) (AH .i64) [0] I I) (λv1 _=>Lm I (l_e I (Ax (sz:=1) [.tmp 18] I I I I I U22 Z3 I zeroValue3 I (λbx=>AM (l_e I (Ap U22 U22 EA I (λ_ h=>AY (h.at 1 I) (AH .i64) [kid] I I) (by simp only[lp,kQ,ob];omega) (λv2=>AM (Av (AB (Kd (kk I ?_))))))))))))))))))))))))))
  refine dm (l:=l) (rec:=rec) (vs:=[.int .i64 (i:Int),v2]) (X':=λw2=>∃lv',St w0 D (DC l (.loop rec)::DC D0 (.deferred (some []))::([Ad bn 135 nv.c,Ad bwy 22 [.slice (some ⟨bw,0,none⟩) 1 1],BY nv.s.k nv.d.kids,Ad bw 3 [.int .i64 0]]++F (i+1) lv')) w2) rfl rfl rfl rfl rfl (by rw[hps];rfl) (λw2 h=>h.at 1 rfl) (λw2 h=>hround i kid v2 lv w2 hk h) (Pre.factE (p:=λ_=>True) (X':=λlv'=>St w0 D (DC l (.loop rec)::DC D0 (.deferred (some []))::([Ad bn 135 nv.c,Ad bwy 22 [.slice (some ⟨bw,0,none⟩) 1 1],BY nv.s.k nv.d.kids,Ad bw 3 [.int .i64 0]]++F (i+1) lv'))) (λw2 h=>by obtain⟨lv',h⟩:=h;exact⟨lv',T0,h⟩) (λlv2 _=>Lq I (Qt I) (Nk (Aa I (Ae (Aw (Kt (Cr I (Lq I (Qi I) (Lm I (AB ?_)))))))))))
  exact AE ((i+1,lv2)) (by dsimp only;omega) (by dsimp only;omega) (Si I) (λ_ h=>h)
 .refine Aa I (AO (Ab (Ab (Am (Bp ?_)))))
  have hie:i=nv.d.kids.length:=by omega
  exact BB I (λ_ h=>⟨_,lv,rfl,by rw[hie] at h;exact h⟩)
theorem VP (bw:Nat) (nv:NV):Con prog 57 [.slice (some ⟨bw,0,none⟩) 1 1,.agg nv.c.toArray] Tr [] (λb:Nat×Nat=>.func (.func 106) #[] #[ptV b.1,ptV b.2]) Tr (λb=>[Ad b.1 135 nv.c,Ad b.2 22 [.slice (some ⟨bw,0,none⟩) 1 1]]):=by
 intro w hE hH
 refine E0 func57 I hH ?_
 exact Cs I (l_e I (AT I I I I (λbwy=>Ce [.slice (some ⟨bw,0,none⟩) 1 1] I (l_e I (AT I I I I (λbn=>Ce nv.c I (Ak I (Cs I (Lq I (C3 (fn:=.func 0) (us:=#[ptV bn,ptV bwy]) 106 I (vs:=#[]) (λa k=>by simp) (λa k=>by simp[k.eval (x:=.tmp 3) rfl,k.eval (x:=.tmp 2) rfl])) (Ak I (Ag (Ao I I (λ_ h=>⟨(bn,bwy),rfl,T0,h⟩)))))))))))))
theorem dr {v:Value} (wl:List Int) (b:Int) (hn:wl.length<=1000):Con prog 55 [v] (λw=>RdV w v (AH .i64) (wl++[b])) [] (λ_:Unit=>.tuple #[vsl v 1 0 wl.length,.int .i64 b]) Tr (λ_=>[]):=by
 intro w hl hH
 have hlen:(wl++[b]).length=wl.length+1:=by simp
 refine E0 func55 I hH (Af ?_)
 have hb:(wl++[b])[wl.length]?=some b:=by simp
 exact Cr I (Las I (Ak I (Af (Do8 (rg 13) 1062882 (λw2=>RdV w2 v (AH .i64) (wl++[b])) I St.drawn hl.kp (Md 2 I (Dq I (AJ I U22 I Ih) (Dq I (CM I I I) (Dq I (FH wl.length I U22 Z3 I Ih I (by omega) (by omega)) (Md 2 I (Dq I (AJ I U22 I Ih) (Dq I (CM I I I) (Dq I (Ar wl.length I U22 Z3 I Ih I (by omega)) (Dq I (AI wl.length 0 I G3 I I Ih hb I) (Das I (d_t I (e_q I I (AF I I) (AL (Kt (Ag (Bg (rs:=[.tmp 2,.tmp 3]) I I (λ_ h=>⟨(),rfl,T0,h⟩)))))))))))))))))))))
theorem kl (h:x.Ok B) {nd:Nd} {b:Int} (hlk:Con prog 71 [ptV x.bh,.int .i64 b] Tr x.H (λs:N4=>.tuple #[.agg (⟨s,nd⟩:NV).c.toArray,.bool true]) Tr (λs=>Bz (⟨s,nd⟩:NV)++x.H)) {v:Value} {wl:List Int} (hn:wl.length<=1000) (hb:b∉wl):Con prog 56 [ptV x.bh,(vsl v 1 0 wl.length),.int .i64 b] Tr ((AA v 3 (AH .i64) (wl++[b])::x.H)) (λs:N4=>.agg (⟨s,nd⟩:NV).c.toArray) Tr (λs=>Bz (⟨s,nd⟩:NV)++(AA v 3 (AH .i64) (wl++[b])::x.H)):=by
 intro w hE hH
 refine Ey func56 I hH (Cs I (l_e I (Au I I I zeroValue135 (λbr=>Ce nv0.c I (Nk (Cs I (Mv 2 I (l_e I (Ee [_,_] (hlk) I call71 Tt (λs _=>Pre.world (St _ _ (_::_::_::_::_::_::HQ.H (x))) Ih ?_))))))))))
 refine Mv 3 I (l_e I (Au I I I zeroValue135 (λbn=>Ce nv0.c I (l_e I (SW AU I (NV.one _) (Ak I (Af (Cs I (Mv 5 I (l_e I (E1 (Lt.contains_spec (va:=vsl v 1 0 wl.length) wl b (by omega)) I call105 (λ_ h=>by have:=CH (h.rd 2 I) (lo:=0) (hi:=wl.length) (lK _) (by simp);rw[lE,nQ] at this;exact this) (λ_ _=>Lq I (Qz I) (Nk (Sf 21 I hb (Aa I (Ae (Kt (Cs I (Lq I (Cq ((⟨s,nd⟩:NV).c) Bx AU 0 I (I) (I)) (AM (l_e I (SW AU I (NV.one _) (Nk (Ag (Pm [4,4,4,2,3,3,3,3,3,3] I ?_)))))))))))))))))))))))))
 exact Pm [11,10,10] I (Av (CJ I (AK I Bx AU (Hat 0 I) (I)) (λ_ h=>⟨s,rfl,T0,h.drop⟩)))
theorem jI (h:x.Ok B) {nd:Nd} {b:Int} (hlk:Con prog 71 [ptV x.bh,.int .i64 b] Tr x.H (λs:N4=>.tuple #[.agg (⟨s,nd⟩:NV).c.toArray,.bool true]) Tr (λs=>Bz (⟨s,nd⟩:NV)++x.H)) {v:Value} {wl:List Int} (hn:wl.length<=1000) (hb:b∉wl) (hlf:nd.leaf) (bv bf:Nat):Con prog 54 [v,pV bv,pV bf] Tr (Ad bv 47 [ptV x.bh]::AA v 3 (AH .i64) (wl++[b])::x.H) (λu:Value=>u) Tr (λu=>AA u 79 En.enc nd.es::Ad bv 47 [ptV x.bh]::AA v 3 (AH .i64) (wl++[b])::x.H):=by
 intro w hE hH
 refine Ey func54 I hH (Cs I (Ak I (Cs I (Lm I (l_e I (E1 (dr wl b hn) I call55 (Hrd 1 I) (λ_ _=>Lm I (Mv 3 I (Ak I (Cs I (Lo G47 0 I (Mv 2 I (l_e I (Ee [_] (kl h hlk hn hb) I call56 Tt (λs _=>Pw (St _ _ (Ad bv 47 [ptV x.bh]::(Bz (⟨s,nd⟩:NV)++(AA v 3 (AH .i64) (wl++[b])::x.H)))) ?_)))))))))))))))
 refine l_e I (Au I I I zeroValue135 (λbn=>Ce nv0.c I (l_e I (SW AU I (NV.one _) (Ns (Cs I (Lfa Cu I Z4 I (Lo G4 0 I (Nk (Sb 21 true I (hlf) (Ah I (Cs I (Lfa Cu I Z49 I (Lo G49 0 I (Ak I (Ag (Ac (Pm [6,6,6,6,6,6,6] I ?_))))))))))))))))))
 exact Pm [7,8,8,8,8,7] I (Av (Ao I I (λ_ h=>⟨s.e.v,rfl,T0,h.sublist (List.Sublist.cons_cons _ (List.Sublist.cons _ (List.Sublist.cons _ (List.Sublist.cons _ (oW _)))))⟩)))
abbrev pmj (pv:Kv 8) (ms:List Ms) (j:Nat):List Ms:=if j=0 then ms.take (Cf Ms.key ms pv) else ms.drop (Cf Ms.key ms pv)
theorem jJ {j:Nat} (hr:BE Ms.key ms) (hn:ms.length<=60000) (hj:j<2):Con prog 59 [va,vp,.int .i64 (j:Int)] (λw=>RdV w va Ms.enc ms/\RdV w vp (Kv.enc 8) [pv]) [] (λv:Value=>v) (λv=>Zm va ms (pmj pv ms j) v) (λ_=>[]) :=
 match j,hj with
 |0,_=>Sq ms pv hr hn
 |1,_=>Sr ms pv hr hn
theorem VQ {L:Env} {a:Act} (k:Know n L a):Know n L {tmps:=a.tmps,defers:=[]}:=⟨k.size,rfl,k.get⟩
def JQ (el:Nat->List En) (pm:Nat->List Ms) (j:Nat):List En:=(List.range j).flatMap (λi=>Ec (el i) (pm i))
theorem G1 (el:Nat->List En) (pm:Nat->List Ms) (j:Nat):JQ el pm (j+1)=JQ el pm j++Ec (el j) (pm j):=by
 unfold JQ
 rw[oL,List.flatMap_append];simp
theorem hU (h:x.Ok B) (hQ:DK x.hm) {pv:Kv 8} {ms:List Ms} {el:Nat->List En} (hlk:x.hm.look=ndT pv ms) (hf:∀b:Nat,b<3->x.q.M.frI (b:Int) 2=some b) (hnd:∀j,j<2->(x.q.M.at' (j+1)).nd=lfN (el j)) (hrm:BE Ms.key ms) (hml:ms.length<=60000) (hrs:∀j,j<2->MM (el j) (pmj pv ms j))
 (hlen:∀j,j<2->(el j).length+(pmj pv ms j).length<=60000) (hacc:∀j,j<2->(JQ el (pmj pv ms) j).length+(Ec (el j) (pmj pv ms j)).length<=60000) (bw bv bf:Nat):Con prog 54 [.slice (some ⟨bw,0,none⟩) 1 1,pV bv,pV bf] Tr (Ad bw 3 [.int .i64 0]::Ad bv 47 [ptV x.bh]::Ad bf 129 [.func (.func 54) #[] #[pV bv,pV bf]]::x.H) (λu:Value=>u) Tr (λu=>Ad bw 3 [.int .i64 0]::AA u 79 En.enc (JQ el (pmj pv ms) 2)::Ad bv 47 [ptV x.bh]::Ad bf 129 [.func (.func 54) #[] #[pV bv,pV bf]]::x.H):=by
 intro w hE hH
 refine g9 (n:=42) (vs:=[.slice (some ⟨bw,0,none⟩) 1 1,pV bv,pV bf]) (St w (dom (Ad bw 3 [.int .i64 0]::Ad bv 47 [ptV x.bh]::Ad bf 129 [.func (.func 54) #[] #[pV bv,pV bf]]::x.H)) (Ad bw 3 [.int .i64 0]::Ad bv 47 [ptV x.bh]::Ad bf 129 [.func (.func 54) #[] #[pV bv,pV bf]]::x.H)) func54 I I I (St.init hH) ?_
 refine Cs I (Ak I (Cs I (Lm I (l_e I (Bf (Ye bw) I I I call55 I Tt (λ_ _=>Lm I (Mv 3 I (Ak I (Cs I (Lo G47 1 I (Mv 2 I (l_e I (Ee [_,_,_] (vat h hQ _ _) I call56 Tt (λs _=>Pre.world (St _ _ (_::_::_::_::_::_::_::HQ.H (x))) Ih ?_))))))))))))))
 rw[hlk]
 refine l_e I (Au I I I zeroValue135 (λbn=>Ce nv0.c I (l_e I (SW AU I (NV.one _) (Ns (Cs I (Lfa Cu I Z4 I (Lo G4 0 I (Nk (Aa I (Ae (Kt (Cs I (l_e I (Au I I I zeroValue49 (λbl=>Ce [.slice none 0 0] I (Ns (Cs I (Lm I (Lq I (Cq ((⟨s,ndT pv ms⟩:NV).c) Bx AU 1 I (I) (I)) (l_e I (Mn (VP bw (⟨s,ndT pv ms⟩:NV)) I I I call57 I Tt ?_))))))))))))))))))))))
 intro ⟨bk,bwy⟩ _
 refine Nk (row0 79 En.enc none (Pm [1,1,7,3,1,0,0,2,2,2] I (Aj ?_)))
 let F:Nat->Value->List Ent:=λ(j:Nat) (lv:Value)=>Ad bl 49 [lv]::AA lv 79 En.enc (JQ el (pmj pv ms) j)::Ad bn 135 (⟨s,ndT pv ms⟩:NV).c::Bv s.e []::CF s.p [pv]::EN s.m ms::Ad bv 47 [ptV x.bh]::Ad bf 129 [.func (.func 54) #[] #[pV bv,pV bf]]::x.H
 refine dk (β:=Value) (HB:=λlv=>[Ad bk 135 (⟨s,ndT pv ms⟩:NV).c,Ad bwy 22 [.slice (some ⟨bw,0,none⟩) 1 1],BY s.k [((1:Nat):Int),((2:Nat):Int)],Ad bw 3 [.int .i64 0]]++F 2 lv) Tr I (λ_ _=>I) ?_ ?_
 .intro a fn l D0 W kn hW
  refine (dq (⟨s,ndT pv ms⟩:NV) (F:=F) rfl (by show 2<=60000;decide) (λj kid v lv w2 hk hw=>?_) hW).mono (λe W' h=>by obtain⟨v,lv',rfl,h⟩:=h;exact⟨v,lv',rfl,T0,h⟩)
  obtain⟨hj,rfl⟩:j<2/\kid=((j+1:Nat):Int):=by
   match j,hk with
   |0,hk=>exact⟨by decide,by cases hk;rfl⟩
   |1,hk=>exact⟨by decide,by cases hk;rfl⟩
  have hlk2:=dW h (hf (j+1) (by omega))
  rw[hnd j hj] at hlk2
  refine Zk (m:=42) (HB:=λlv=>DC D0 (.deferred (some []))::([Ad bk 135 (⟨s,ndT pv ms⟩:NV).c,Ad bwy 22 [.slice (some ⟨bw,0,none⟩) 1 1],BY s.k [((1:Nat):Int),((2:Nat):Int)],Ad bw 3 [.int .i64 0]]++F (j+1) lv)) I I (by have k2:=((VQ kn).put (d:=27) (.int .i64 (j:Int)) I).put (d:=28) v rfl;simpa [QS,Act.put] using k2) (hw.perm (List.Perm.swap _ _ _)) (jH (QT _ I I (Ak I (QT _ I I (Ak I (g8 (di (dj (λ_ _ h=>by cases h.1) rfl [(0,some true),(1,some true),(2,some true),(4,some true),(5,some true),(6,some true),(7,some true),(8,some true),(3,some false),(9,some false),(10,some false),(11,none),(12,none)] [11,12] [(_,some true),(_,some true),(_,some true),(_,some true),(_,some true),(_,some true),(_,some true),(_,some true),(_,some false),(_,some false),(_,some false),(_,none),(_,none)] (λw2=>(Ad bl 49 [lv]).at w2/\(Ad bf 129 [.func (.func 54) #[] #[pV bv,pV bf]]).at w2/\(Ad bn 135 (⟨s,ndT pv ms⟩:NV).c).at w2) (CZ Zl) rfl (by kernel_rfl) (by kernel_rfl) rfl rfl rfl (by kernel_rfl) St.drawn (Hc 7 14 9 I) (Dq I (Al I G49 I (λ_ h=>h.1) I) (Dq I (Al I isAgg129 I (λ_ h=>h.2.1) I) (Dm I (Dfa Cu I Hs I (Dq I (Al I IN I (λ_ h=>h.2.2) I) (Dfa Cu I NA I (Dq I (Al I Ra I (λ_ h=>h.2.2) I) (Dm I (Pm [1,14,14,14,14,14,14] I ?_)))))))))))))))))
  refine Pnn 21 [7,8,9,10,11,12,13,14,15,16,17,18,20,19,0,1,2,3,4,5,6] I (d_e I (Ld [_,_,_,_,_,_,_,_,_,_,_,_,_] (vs:=[v]) (us:=[pV bv,pV bf]) (jI h hlk2 (wl:=[0]) (by decide) (by simp;omega) I bv bf) I I I I call54 I Tt (λu _=>Pre.world (St _ _ (_::_::_::_::_::_::_::_::_::_::_::_::_::_::_::_::HQ.H x)) Ih (Ai (Hc 6 12 8 I) (d_e I (E1 (jJ hrm hml hj) I call59 (λ_ h=>⟨h.rd 11 rfl,h.rd 10 rfl⟩) (λu2 hp=>Ai (Hc 6 12 8 I) (d_e I (AZ (MO (el j) (pmj pv ms j) (hrs j hj) (hlen j hj)) I I I call58 I (λ_ h=>⟨h.rd 13 rfl,hp _ (h.rd 11 I)⟩) ?_)))))))))
  intro ⟨u3,own⟩ hb
  refine Ai (Hc 7 13 9 I) (dL (d_t I (BT rfl rfl rfl U49 U49 CK rfl rfl rfl rfl rfl (λ_ h=>Ij h 1 rfl (λe=>by obtain⟨e1,e2⟩:=hb.2 e;dsimp only at e1;subst e1;rw[e2];exact h.rd 14 rfl)) (by have:=hacc j hj;simp only[Gq];omega) (by have:=hacc j hj;omega) (λv4=>Pre.fact (λ_ h=>BW (h.at 0 I)) ?_))))
  rintro⟨a2,c3,rfl⟩
  refine dL (d_t I (AG I I Z49 I I I (ng I) (Ce [(.slice a2 (JQ el (pmj pv ms) j++Ec (el j) (pmj pv ms j)).length c3)] I (AL (Aw (AX (Av (eR (Av (eS (Av (Pm [8,8,8,8,9,8,8,8,8,8,8,8] I (Pm [14,14,14,14,14,14,12,12] I ?_)))))))))))))
  refine λ_ _ _ h=>⟨rfl,(.slice a2 (JQ el (pmj pv ms) j++Ec (el j) (pmj pv ms j)).length c3),?_⟩
  dsimp only[F]
  rw[G1]
  exact h
 .intro lv _ a D0 W kn hW
  exact dp (n:=42) I I I I I I I (Al I G49 I (Hat 5 I) I) (AF I I) kn hW (hW.at 0 I) (⟨lv,rfl,T0,(hW.put _).sublist (List.Sublist.cons _ (List.Sublist.cons _ (List.Sublist.cons _ (List.Sublist.cons _ (List.Sublist.cons_cons _ (List.Sublist.cons _ (List.Sublist.cons_cons _ (List.Sublist.cons _ (List.Sublist.cons _ (List.Sublist.cons _ (List.Sublist.cons _ (oW _))))))))))))⟩)
theorem jK (h:x.Ok B)(hQ:DK x.hm) {pv:Kv 8} {ms:List Ms} {el:Nat->List En} (hlk:x.hm.look=ndT pv ms) (hf:∀b:Nat,b<3->x.hm.M.frI (b:Int) 2=some b) (hnd:∀j,j<2->(x.hm.M.at' (j+1)).nd=lfN (el j)) (hrm:BE Ms.key ms) (hml:ms.length<=60000) (hrs:∀j,j<2->MM (el j) (pmj pv ms j))
 (hlen:∀j,j<2->(el j).length+(pmj pv ms j).length<=60000) (hacc:∀j,j<2->(JQ el (pmj pv ms) j).length+(Ec (el j) (pmj pv ms j)).length<=60000):Con prog 20 [ptV x.bh] Tr (x.H) (λv:Value=>v) Tr (λv=>AA v 79 En.enc (JQ el (pmj pv ms) 2)::x.H):=by
 intro w hE hH
 refine Ey func20 I hH (Cs I (l_e I (AT I I I I (λbv=>Ce [ptV x.bh] I (Ak I (Cs I (l_e I (Au I I I zeroValue129 (λbf=>Nk (Cs I (Lq I (C3 (fn:=.func 0) (us:=#[pV bv,pV bf]) 54 I (vs:=#[]) (λa k=>by simp) (λa k=>by simp[k.eval (x:=.tmp 1) rfl,k.eval (x:=.tmp 3) rfl])) (l_e I (AG I I sizeOf129 I I I (ng I) (Ce [.func (.func 54) #[] #[pV bv,pV bf]] I (Nk (Cs I (Lo isAgg129 0 I (l_e I (Ax (sz:=1) [.const (.int .i64 0)] I I I I I U22 Z3 I zeroValue3 I (λbw=>Pm [0,1] I (l_e I (Ld [] (vs:=[.slice (some ⟨bw,0,none⟩) 1 1]) (us:=[pV bv,pV bf]) (hU h hQ hlk hf hnd hrm hml hrs hlen hacc bw bv bf) I I I I call54 I Tt (λv _=>Pre.world (St _ _ (_::_::_::_::HQ.H x)) Ih ?_)))))))))))))))))))))))
 exact Ak I (Ag (Pm [3,0,1] I (Av (Av (Av (Ao I I (λ_ h=>⟨v,rfl,T0,h⟩)))))))
structure RE (l:List En):Prop where
 r:BG l
 ok:∀e∈l,kck e.key=true/\vck e.val=true
theorem Zn {l:List En} {m:Ms} (hm:mck m) {e:En} (h:e∈CY l m):kck e.key=true/\vck e.val=true:=by
 have hk:=G0 hm
 unfold CY at h
 split at h
 .rename_i h2
  simp only[nq] at h
  subst h
  refine⟨hk,?_⟩
  show vck (Cp _ _ m).1=true
  unfold Cp at h2 ⊢
  unfold mck at hm
  rw[hk,o9] at hm
  by_cases h1:m.kind=1
  .rw[lu h1] at hm ⊢
   rw[mz] at hm;exact hm.1
  .rw[lz h1] at h2 ⊢
   by_cases h3:m.kind=3
   .rw[lu h3];exact LI _ _
   .rw[lz h3] at h2;cases h2
 .cases h
theorem RE.put {l:List En} (h:RE l) {m:Ms} (hm:mck m):RE (Bs l m):=⟨El h.r (λe he=>(h.ok e he).1) (G0 hm),λe he=>((Ep h.r m).1 he).elim (λh1=>h.ok e h1.1) (Zn hm)⟩
theorem RE.all:∀{ms:List Ms} {l:List En},RE l->(∀m∈ms,mck m=true)->RE (Ec l ms)
 |[],_,h,_=>h
 |m::ms,l,h,hm=>RE.all (ms:=ms) (h.put (hm m (ns ..))) (λx hx=>hm x (nG _ hx))
theorem RE.rises {l:List En} (h:RE l) (hm:∀m∈ms,mck m=true):MM l ms:=λi _=>(h.all (λm hx=>hm m (kZ hx))).r
theorem LQ:∀{ms:List Ms} {l:List En},RE l->(∀m∈ms,mck m=true)->∀e∈Ec l ms,(∃d∈l,d.key=e.key)\/∃m∈ms,m.key=e.key
 |[],_,_,_,e,he=>.inl ⟨e,he,rfl⟩
 |m::ms,l,h,hm,e,he=>by
  rcases LQ (ms:=ms) (h.put (hm m (ns ..))) (λx hx=>hm x (nG _ hx)) e he with⟨d,hd,e1⟩|⟨x,hx,e1⟩
  .rcases (Ep h.r m).1 hd with⟨h1,_⟩|h1
   .exact .inl ⟨d,h1,e1⟩
   .exact .inr ⟨m,ns ..,by rw[<-LJ h1];exact e1⟩
  .exact .inr ⟨x,nG _ hx,e1⟩
theorem H0 {l l':List Ms} (hr:BE Ms.key l) (hr':BE Ms.key l') {k:Kv 8} (h:∀x:Ms,x.key=k->(x∈l↔x∈l')):Fl l k=Fl l' k:=by
 cases hb:Fl l' k with
 |some x =>
  obtain⟨h1,h2⟩:=(Dv hr').1 hb
  exact (Dv hr).2 ⟨(h x h2).2 h1,h2⟩
 |none=>exact (IC hr).2 (λx hx e=>(IC hr').1 hb x ((h x e).1 hx) e)
theorem Jo:∀{ms:List Ms} {l:List En},RE l->BE Ms.key ms->(∀m∈ms,mck m=true)->∀k,AN (Ec l ms) k=Za (AN l k) (Fl ms k)
 |[],_,_,_,_,_=>rfl
 |m::ms,l,h,hr,hm,k=>by
  have hm0:=hm m (ns ..)
  obtain⟨hr1,hr2⟩:=pc.1 hr
  have hp:=h.put hm0
  show AN (Ec (Bs l m) ms) k=_
  rw[Jo hp hr2 (λx hx=>hm x (nG _ hx)) k,Jl h.r hp.r]
  split
  .rename_i e
   subst e
   have h1:Fl ms m.key=none:=(IC hr2).2 (λx hx e=>by have:=hr1 x hx;rw[e,DA] at this;exact absurd this (by decide))
   rw[h1,(Dv hr).2 ⟨ns ..,rfl⟩];rfl
  .rename_i e
   rw[H0 hr hr2 (k:=k) (λx hx=>⟨λh=>(kN.1 h).resolve_left (λe2=>e (by rw[<-hx,e2])),nG _⟩)]
theorem jL {f:α->Kv 8} {l:List α} {y:α} (h:y∈l.take (Cf f l k)):Bq (f y) k<0:=by
 obtain⟨j,hj⟩:=oJ.1 h
 rw[lr] at hj
 split at hj
 .rename_i hlt;exact JZ hlt hj
 .cases hj
theorem jM {f:α->Kv 8} {l:List α} (hr:BE f l) {k:Kv 8} {y:α} (h:y∈l.drop (Cf f l k)):¬Bq (f y) k<0:=by
 obtain⟨j,hj⟩:=oJ.1 h
 rw[ly] at hj
 exact NZ hr (pF _ _) hj
abbrev dt (e1 e2:List En) (pv:Kv 8) (ms:List Ms):List En:=Ec e1 (ms.take (Cf Ms.key ms pv))++Ec e2 (ms.drop (Cf Ms.key ms pv))
theorem hY {e1 e2:List En} (r1:BG e1) (r2:BG e2) (hs:Zg e1 e2 pv) (hr:BE Ms.key ms) (hm:∀m∈ms,mck m=true):RE (dt e1 e2 pv ms)/\(∀k,AN (dt e1 e2 pv ms) k=Ng e1 e2 pv ms k)/\RE e1/\RE e2:=by
 have q1:RE e1:=⟨r1,λe he=>(hs.lo e he).1⟩
 have q2:RE e2:=⟨r2,λe he=>(hs.hi e he).1⟩
 have m1:∀m∈ms.take (Cf Ms.key ms pv),mck m=true:=λm h=>hm m (kZ h)
 have m2:∀m∈ms.drop (Cf Ms.key ms pv),mck m=true:=λm h=>hm m (List.mem_of_mem_drop h)
 have hr1:BE Ms.key (ms.take (Cf Ms.key ms pv)):=hr.sublist (pj ..)
 have hr2:BE Ms.key (ms.drop (Cf Ms.key ms pv)):=hr.sublist (List.drop_sublist ..)
 have p1:=q1.all m1
 have p2:=q2.all m2
 have lo:∀e∈Ec e1 (ms.take (Cf Ms.key ms pv)),Bq e.key pv<0:=λe he=>by
  rcases LQ q1 m1 e he with⟨d,hd,e1⟩|⟨x,hx,e1⟩
  .rw[<-e1];exact (hs.lo d hd).2
  .rw[<-e1];exact jL hx
 have hi:∀e∈Ec e2 (ms.drop (Cf Ms.key ms pv)),¬Bq e.key pv<0:=λe he=>by
  rcases LQ q2 m2 e he with⟨d,hd,e1⟩|⟨x,hx,e1⟩
  .rw[<-e1];exact (hs.hi d hd).2
  .rw[<-e1];exact jM hr hx
 have hR:BG (dt e1 e2 pv ms):=by
  refine pg.2 ⟨p1.r,p2.r,λa ha b hb=>?_⟩
  have h1:=lo a ha
  have h2:=hi b hb
  have h3:=Fe b.key pv
  exact E7 h1 (by omega:Bq pv b.key<=0)
 refine⟨⟨hR,λe he=>(mT.1 he).elim (p1.ok e) (p2.ok e)⟩,λk=>?_,q1,q2⟩
 have hneg:=Fe k pv
 unfold Ng QO
 by_cases hk:Bq pv k<=0
 .rw[lu hk,EE hR p2.r (k:=k) (λe he=>⟨λh=>(mT.1 h).resolve_left (λh1=>by have:=lo e h1;rw[he] at this;omega),nK _⟩),Jo q2 hr2 m2]
  congr 1
  refine H0 hr2 hr (λx hx=>⟨List.mem_of_mem_drop,λh=>?_⟩)
  rw[<-my (Cf Ms.key ms pv) ms] at h
  exact (mT.1 h).resolve_left (λh1=>by have:=jL h1;rw[hx] at this;omega)
 .rw[lz hk,EE hR p1.r (k:=k) (λe he=>⟨λh=>(mT.1 h).resolve_right (λh1=>by have:=hi e h1;rw[he] at this;omega),lO _⟩),Jo q1 hr1 m1]
  congr 1
  refine H0 hr1 hr (λx hx=>⟨kZ,λh=>?_⟩)
  rw[<-my (Cf Ms.key ms pv) ms] at h
  exact (mT.1 h).resolve_right (λh1=>by have:=jM hr h1;rw[hx] at this;omega)
theorem Nj {l:List En} {e:En} (h:AN l e.key=(e.val,true)):e∈l:=by
 rcases IB l e.key with⟨d,h1,h2,h3⟩|h1
 .rw[h3] at h
  have:d=e:=by cases d;cases e;cases h;dsimp only at h2;subst h2;rfl
  exact this▸h1
 .rw[h1] at h;exact absurd (congrArg Prod.snd h) (by simp)
theorem QU:∀{a b:List En},BG a->BG b->(∀e,e∈a↔e∈b)->a=b
 |[],[],_,_,_=>rfl
 |[],y::b,_,_,h=>absurd ((h y).2 (ns ..)) (by simp)
 |x::a,[],_,_,h=>absurd ((h x).1 (ns ..)) (by simp)
 |x::a,y::b,ha,hb,h=>by
  obtain⟨a1,a2⟩:=pc.1 ha
  obtain⟨b1,b2⟩:=pc.1 hb
  have e:x=y:=by
   rcases kN.1 ((h x).1 (ns ..)) with e|e
   .exact e
   .rcases kN.1 ((h y).2 (ns ..)) with e2|e2
    .exact e2.symm
    .have h1:=b1 x e
     have h2:=a1 y e2
     have h3:=Fe x.key y.key
     omega
  subst e
  have ne:∀{l:List En},(∀d∈l,Bq x.key d.key<0)->x∉l:=λhl hx=>by have:=hl x hx;rw[DA] at this;exact absurd this (by decide)
  rw[QU a2 b2 (λd=>⟨λhd=>((kN.1 ((h d).1 (nG _ hd))).resolve_left (λe=>ne a1 (e▸hd))),λhd=>((kN.1 ((h d).2 (nG _ hd))).resolve_left (λe=>ne b1 (e▸hd)))⟩)]
theorem Zo {a b:List En} (ha:BG a) (hb:BG b) (h:∀k,AN a k=AN b k):a=b :=
 QU ha hb (λe=>⟨λhe=>Nj (by rw[<-h];exact FV ha he),λhe=>Nj (by rw[h];exact FV hb he)⟩)
def JR (c:Ca):Option Ms:=if (fB c||BH c.op||decide (c.op.kind=4))=true then none else some (mOf c.op)
def du (k:Kv 8) (p:Kv 16×Bool):Option Ms->Kv 16×Bool
 |some m=>if k=m.key then Cp p.1 p.2 m else p
 |none=>p
theorem Oy {p:Kv 16×Bool} {m:Ms} (h:k≠m.key):du k p (some m)=p:=lz h
theorem hZ (m:List En) (c:Ca):(Bj m c).1=match JR c with|some z=>Bs m z|none=>m:=by
 unfold Bj JR rDo
 cases fB c<;>cases BH c.op<;>simp<;>split<;>rfl
theorem jN (h:RE m) (c:Ca):RE (Bj m c).1/\∀k,AN (Bj m c).1 k=du k (AN m k) (JR c):=by
 rw[hZ]
 unfold JR
 by_cases hb:(fB c||BH c.op||decide (c.op.kind=4))=true
 .rw[lu hb];exact⟨h,λ_=>rfl⟩
 .rw[lz hb]
  have hr:BG (Bs m (mOf c.op)):=El h.r (λe he=>(h.ok e he).1) (EU c.op)
  refine⟨⟨hr,λe he=>((Ep h.r _).1 he).elim (λh1=>h.ok e h1.1) J4⟩,λk=>?_⟩
  show AN (Bs m (mOf c.op)) k=if k=(mOf c.op).key then _ else _
  rw[Jl h.r hr]
  split
  .rename_i e;rw[e]
  .rfl
def LR (l:List Ca) (k:Kv 8) (d:List Bool):Nat->Kv 16×Bool
 |0=>(kv0 16,false)
 |n+1=>if d.getD n false=true then du k (LR l k d n) (JR (l.getD n ca0)) else LR l k d n
def dv (l:List Ca):Prop:=∀(i j:Nat) (a b:Ms),i<j->j<l.length->JR (l.getD i ca0)=some a->JR (l.getD j ca0)=some b->a.key=b.key->bef (l.getD i ca0) (l.getD j ca0)=true
def DnC (l:List Ca) (d:List Bool):Prop:=∀i j,i<l.length->j<l.length->i≠j->d.getD j false=true->bef (l.getD i ca0) (l.getD j ca0)=true->d.getD i false=true
theorem getD_set (h:i<d.length):(d.set i true).getD j false=if j=i then true else d.getD j false:=by
 rw[om,oC,om]
 by_cases e:i=j
 .rw[lu e,lu (by omega),lu e.symm];rfl
 .rw[lz e,lz (λh=>e h.symm)]
theorem QV {k:Kv 8} (ho:dv l) (hd:DnC l d) {i:Nat} (hi:i<l.length) (hdl:d.length=l.length) (h0:d.getD i false=false):∀n,n<=l.length->LR l k (d.set i true) n=if n<=i then LR l k d n else du k (LR l k d n) (JR (l.getD i ca0))
 |0,_=>(lu (lK _)).symm
 |n+1,hn=>by
  have ih:=QV (k:=k) ho hd hi hdl h0 n (by omega)
  simp only[LR]
  rw[getD_set (by omega),ih]
  by_cases h1:n=i
  .subst h1
   rw[lu rfl,lu rfl,lu (lJ _),lz (by omega),h0,lz pt]
  .rw[lz h1]
   by_cases h2:n<i
   .rw[lu (show n<=i by omega),lu (show n+1<=i by omega)]
   .rw[lz (show ¬n<=i by omega),lz (show ¬n+1<=i by omega)]
    by_cases h3:d.getD n false=true
    .rw[lu h3,lu h3]
     cases e1:JR (l.getD i ca0) with
     |none=>rfl
     |some a =>
      cases e2:JR (l.getD n ca0) with
      |none=>rfl
      |some b =>
       by_cases ka:k=a.key
       .by_cases kb:k=b.key
        .have:=hd i n hi (by omega) (by omega) h3 (ho i n a b (by omega) (by omega) e1 e2 (by rw[<-ka,kb]))
         rw[h0] at this;cases this
        .rw[Oy kb,Oy kb]
       .rw[Oy ka,Oy ka]
    .rw[lz h3,lz h3]
theorem DnC.step (h:DnC l d) {i:Nat} (hdl:d.length=l.length) (hf:EC l d i) (hi:i<l.length):DnC l (d.set i true):=λx y hx hy hxy hy2 hb=>by
 rw[getD_set (by omega)] at hy2 ⊢
 by_cases e1:x=i
 .rw[lu e1]
 .rw[lz e1]
  by_cases e2:y=i
  .subst e2
   unfold EC at hf
   rw[mz,np] at hf
   have:=hf.2 x (lQ.2 hx)
   rw[hb,oc e1] at this
   simpa using this
  .rw[lz e2] at hy2
   exact h x y hx hy hxy hy2 hb
theorem Ud (h:EC l d i):d.getD i false=false:=by
 unfold EC at h
 rw[mz] at h
 cases hx:d.getD i false with
 |false=>rfl
 |true=>rw[hx] at h;exact absurd h.1 (by decide)
theorem CompO.fin (h:CompO l d m q) (ho:dv l) (hto:∀i,i<l.length->0<=(l.getD i ca0).to'):d.length=l.length->DnC l d->RE m->(∀k,AN m k=LR l k d l.length)->RE (Ea l q m)/\∀k,AN (Ea l q m) k=LR l k (List.replicate l.length true) l.length:=by
 induction h with
 |@over d m h =>
  intro hdl hd hm hv
  refine⟨hm,λk=>?_⟩
  have e:d=List.replicate l.length true:=by
   apply lY
   intro j
   rw[mO]
   split
   .rename_i hj
    unfold Fy at h
    rw[np] at h
    have:=h j (lQ.2 hj)
    rw[oc (by have:=hto j hj;omega),Bool.false_or,om,kY (by omega)] at this
    rw[kY (by omega)]
    exact congrArg some this
   .rw[k8 (by omega)]
  show AN m k=_
  rw[hv,e]
 |@step d m ks i hi hf hs h ih =>
  intro hdl hd hm hv
  obtain⟨q1,q2⟩:=jN hm (l.getD i ca0)
  refine ih (by rw[nU];exact hdl) (hd.step hdl hf hi) q1 (λk=>?_)
  rw[q2,QV ho hd hi hdl (Ud hf) _ (lJ _),lz (by omega),hv]
theorem Ue (l:List Ca) (k:Kv 8) (n:Nat):∀j,LR l k (List.replicate n false) j=(kv0 16,false)
 |0=>rfl
 |j+1=>by
  have e:(List.replicate n false).getD j false=false:=by
   rw[om,mO];split<;>rfl
  simp only[LR]
  rw[e,lz pt];exact Ue l k n j
theorem CompO.all (h:CompO l (List.replicate l.length false) [] q) (ho:dv l) (hto:∀i,i<l.length->0<=(l.getD i ca0).to'):RE (Ea l q [])/\∀k,AN (Ea l q []) k=LR l k (List.replicate l.length true) l.length :=
 h.fin ho hto (oy ..) (λx y _ _ _ h=>by rw[om,mO] at h;split at h<;>cases h) ⟨List.Pairwise.nil,λe h=>(by cases h)⟩ (λk=>by rw[Ue];rfl)
theorem CompO.len (h:CompO l d m q) (hto:∀i,i<l.length->0<=(l.getD i ca0).to'):d.length=l.length->q.length=d.count false:=by
 induction h with
 |@over d m h =>
  intro hdl
  refine (List.count_eq_zero.2 (λhx=>?_)).symm
  obtain⟨j,hj⟩:=oJ.1 hx
  have hlt:=(lR.1 hj).1
  unfold Fy at h
  rw[np] at h
  have:=h j (lQ.2 (by omega))
  rw[oc (by have:=hto j (by omega);omega),Bool.false_or,om,hj] at this
  cases this
 |@step d m ks i hi hf hs h ih =>
  intro hdl
  have h0:=Ud hf
  rw[om,kY (by omega)] at h0
  have:=Lx (d:=d) (i:=i) (by rw[kY (by omega)];exact congrArg some h0)
  rw[kQ,ih (by rw[nU];exact hdl)]
  omega
theorem QW (ops:List (List Opn)) (ev:List Evt) (h:YF ops ev):∀i,i<=ev.length->∀c∈Bo ops ev i,∃(t:Nat) (lo:List Opn),c.client=(t:Int)/\ops[t]?=some lo/\c.op∈lo
 |0,_,c,hc=>by cases hc
 |i+1,hi,c,hc=>by
  have ih:=QW ops ev h i (by omega)
  obtain⟨x,hx⟩:=gE ev i
  rw[HY hx] at hc
  unfold Lp at hc
  split at hc
  .obtain⟨y,hy,rfl⟩:=lP.1 hc
   have:(CU i x y).client=y.client/\(CU i x y).op=y.op:=by unfold CU;split<;>exact⟨rfl,rfl⟩
   rw[this.1,this.2];exact ih y hy
  .rcases mT.1 hc with hc|hc
   .exact ih c hc
   .simp only[nq] at hc
    subst hc
    obtain⟨_,t,k,lo,o,e1,e2,e3,e4,e5⟩:=h x (mQ hx)
    exact⟨t,lo,e1,e3,by show gz ops x∈lo;rw[e5];exact mQ e4⟩
section
variable {ops:List (List Opn)} {s:List (Nat×Bool)} {P:Nat->Option Ans} {ev:List Evt} {ord:List Nat} {m:List En}
theorem HP.all (h:HP ops s P ev ord m) (hs:∀p∈s,p.2=false):∀i,i<(AS ops ev).length->0<=((AS ops ev).getD i ca0).to':=λi hi=>by
 obtain⟨t,nx,b,h1,h2,h3,h4⟩:=h.ix _ (Fg hi)
 have hb:b=false:=hs _ (mQ h2)
 subst hb
 rcases h4 with h4|⟨_,h4,_⟩
 .exact h4.2
 .cases h4
theorem HP.own (h:HP ops s P ev ord m) {f:Nat->Kv 8} (hf:∀t u,t<ops.length->u<ops.length->f t=f u->t=u) (hk:∀(t:Nat) (lo:List Opn),ops[t]?=some lo->∀o∈lo,kOf o=f t):dv (AS ops ev):=λi j a b hij hj ea eb e=>by
 have key:∀k,k<(AS ops ev).length->∀z,JR ((AS ops ev).getD k ca0)=some z->∃t:Nat,((AS ops ev).getD k ca0).client=(t:Int)/\t<ops.length/\z.key=f t:=λk hk2 z hz=>by
  obtain⟨t,lo,h1,h2,h3⟩:=QW ops ev h.evk _ (lJ _) _ (Fg hk2)
  refine⟨t,h1,(lR.1 h2).1,?_⟩
  unfold JR at hz
  split at hz
  .cases hz
  .cases hz;exact hk t lo h2 _ h3
 obtain⟨t,t1,t2,t3⟩:=key i (by omega) a ea
 obtain⟨u,u1,u2,u3⟩:=key j hj b eb
 have:=hf t u t2 u2 (by rw[<-t3,<-u3,e])
 subst this
 have hg:∀k (hk:k<(AS ops ev).length),(AS ops ev).getD k ca0=(AS ops ev)[k]:=λk hk=>by rw[om,kY hk];rfl
 have:=o5.1 h.sq i j (by omega) hj hij
 rw[<-hg,<-hg] at this
 exact this (by rw[t1,u1])
theorem HP.found (h:HP ops s P ev ord m) (hs:∀p∈s,p.2=false) {q:List Nat} (hq:CompO (AS ops ev) (List.replicate (AS ops ev).length false) [] q):q.length=(AS ops ev).length/\∀{f:Nat->Kv 8},(∀t u,t<ops.length->u<ops.length->f t=f u->t=u)->(∀(t:Nat) (lo:List Opn),ops[t]?=some lo->∀o∈lo,kOf o=f t)->∀{mm:List En},RE mm->(∀k,AN mm k=AN m k)->mm=Ea (AS ops ev) q []:=by
 have hto:=h.all hs
 refine⟨by rw[hq.len hto (oy ..),List.count_replicate_self],λhf hk mm hm hv=>?_⟩
 have ho:=h.own hf hk
 obtain⟨c1,c2⟩:=h.comp
 obtain⟨_,a2⟩:=c1.all ho hto
 obtain⟨b1,b2⟩:=hq.all ho hto
 exact Zo hm.r b1.r (λk=>by rw[hv,b2,<-a2,c2])
end
theorem Zp {m:HM} {l:List En} (hv:Con prog 20 [ptV z.x.bh] Tr z.x.H (λv:Value=>v) Tr (λv=>AA v 79 En.enc l::z.x.H)):Con prog 20 [ptV z.x.bh] Tr (z.H m) (λv:Value=>v) Tr (λv=>AA v 79 En.enc l::z.H m):=by
 have hp:(z.H m).Perm (z.x.H++(HSE z.bH (ptV z.x.bh) z.bt z.vT z.vO z.vE m.sq m.pk::AA z.vE 71 Evt.enc m.ev::AA z.vT 102 Tk.enc z.tks::Ad z.bt 171 (Sc.kH m.T)::(CLs 0 z.cc++FLs z.cc.length z.fl))):=by
  have h1:z.H m=(HSE z.bH (ptV z.x.bh) z.bt z.vT z.vO z.vE m.sq m.pk::AA z.vE 71 Evt.enc m.ev::AA z.vT 102 Tk.enc z.tks::Ad z.bt 171 (Sc.kH m.T)::(CLs 0 z.cc++FLs z.cc.length z.fl))++z.x.H:=by
   show _::_::_::_::(CLs 0 z.cc++(FLs z.cc.length z.fl++z.x.H))=_::_::_::_::((CLs 0 z.cc++FLs z.cc.length z.fl)++z.x.H)
   rw[mj]
  rw[h1]
  exact og
 exact Con.pack _ hv hp (λ_ _ _=>trivial) id (λv _=>⟨rfl,T0,[],by rw[nS];exact (hp.symm.cons _)⟩)
theorem Way2.fin {x:HM} (h:Way2 ls nb x n) {z:HC} {B:Nat} (k:HOk z x B):∃mm,RE mm/\mm.length<=60000/\(∃P ord mp,HP ls (sX x) P x.ev ord mp/\∀k,AN mm k=AN mp k)/\Con prog 20 [ptV z.x.bh] Tr (z.H x) (λv:Value=>v) Tr (λv=>AA v 79 En.enc mm::z.H x):=by
 have hq:=k.lh.ok
 have hx:=k.lh.hm
 cases h with
 |lo m hi hf ht hk hs ord hh ho =>
  have hx:z.x.hm=eL m.L:=hx
  have hl:=Iw hi.lok
  have hM:(eL m.L).look.es=Lo.mapL m.L:=Qu hi.lok
  have hv:=jr hq (by rw[hx];exact J3 hi.lok) (by rw[hx];exact hl.1)
  rw[hx,hM] at hv
  refine⟨Lo.mapL m.L,?_,by rw[<-hM];exact mf hl.2.1.e (by decide),⟨_,ord,_,by rw[Zf];exact hh,λ_=>rfl⟩,Zp hv⟩
  by_cases h2:m.L.r.st=2
  .obtain⟨es,e,hr,hfit⟩:=hi.lok.nd h2
   have:Lo.mapL m.L=es:=by rw[Lo.mapL_at h2];unfold Lo.lfe;rw[e];rfl
   rw[this];exact⟨hr,DJ hfit⟩
  .rw[Lo.mapL_no h2];exact⟨List.Pairwise.nil,λe h=>(by cases h)⟩
 |tw x e1 e2 pv ms P mp ord h ht hr hs hn h12 hh ho =>
  obtain⟨t1,t2,r1,r2⟩:=hY h.r1 h.r2 hs h.rm h.cm
  have hn1:(x.L.M.at' 1).nd=lfN e1:=by rw[<-h.two.nd (b:=1) (by decide)];exact h.n1
  have hn2:(x.L.M.at' 2).nd=lfN e2:=by rw[<-h.two.nd (b:=2) (by decide)];exact h.n2
  have sm:∀b,b<3->(x.L.M.at' b).nd.Sm 1000:=λb hb=>by
   have hlt:=h.two.lt hb
   have hM:z.x.q.M=x.L.M:=congrArg Hm.M hx
   have:=hq.q.ok.es (x.L.M.at' b) (by rw[hM];unfold Mo.at';rw[om,kY hlt];exact k7 hlt)
   exact this
  have l1:e1.length<=1000:=by have:=(sm 1 (by decide)).e;rw[hn1] at this;exact this
  have l2:e2.length<=1000:=by have:=(sm 2 (by decide)).e;rw[hn2] at this;exact this
  have hn0:(x.L.M.at' 0).nd=ndT pv ms:=by rw[<-h.two.nd (b:=0) (by decide)];exact h.n0
  have l0:ms.length<=1000:=by have:=(sm 0 (by decide)).m;rw[hn0] at this;exact this
  obtain⟨el,hel⟩:∃el:Nat->List En,el=λj=>if j=0 then e1 else e2:=⟨_,rfl⟩
  have ep:∀j,(pmj pv ms j).length<=1000:=λj=>by
   unfold pmj
   split
   .rw[k9];omega
   .rw[lk];omega
  have ee:∀j,(el j).length<=1000/\RE (el j):=λj=>by
   rw[hel];dsimp only
   split
   .exact⟨l1,r1⟩
   .exact⟨l2,r2⟩
  have em:∀j,∀m∈pmj pv ms j,mck m=true:=λj m hm=>by
   unfold pmj at hm
   split at hm
   .exact h.cm m (kZ hm)
   .exact h.cm m (List.mem_of_mem_drop hm)
  have e2':JQ el (pmj pv ms) 2=dt e1 e2 pv ms:=by rw[hel,G1,G1];rfl
  have lj:∀j,(Ec (el j) (pmj pv ms j)).length<=2000:=λj=>by
   have:=KQ (pmj pv ms j) (el j)
   have:=ep j
   have:=(ee j).1
   omega
  have va:∀j,(JQ el (pmj pv ms) j).length<=2000*j:=λj=>by
   induction j with
   |zero=>exact lJ _
   |succ j ih=>rw[G1,lp];have:=lj j;omega
  have hv:=jK hq (by rw[hx];exact h.quiet l0) (pv:=pv) (ms:=ms) (el:=el) (by rw[hx];exact h.look) (λb hb=>by rw[hx];exact h.two.f b hb) (λj hj=>by
   rw[hx,hel]
   match j,hj with
   |0,_=>exact hn1
   |1,_=>exact hn2) h.rm (by omega) (λj hj=>(ee j).2.rises (em j)) (λj hj=>by have:=ep j;have:=(ee j).1;omega) (λj hj=>by have:=va j;have:=lj j;omega)
  rw[e2'] at hv
  exact⟨_,t1,by rw[<-e2'];exact mf (va 2) (by decide),⟨P,ord,mp,hh,λk=>by rw[t2,hr.f]⟩,Zp hv⟩
theorem Oz (l:List En) (hr:BG l) (hk:∀e∈l,kck e.key=true/\vck e.val=true) (hn:l.length<=60000):Con prog 21 [va] (λw=>RdV w va En.enc l) [] (λ_:Unit=>.bool true) Tr (λ_=>[]):=by
 intro w hl hH
 refine E0 func21 I hH (Cs I (Ak I (Af (Cs I (Ak I (Aj ?_))))))
 refine A0 (λ(i:Nat)=>[(0,va),(3,.int .i64 (i:Int))]) (λ(i:Nat)=>St w [] []) (λ(i:Nat)=>i<=l.length) (λ(i:Nat)=>l.length-i) (0) (lK _) (Si I) Ih (λi hi=>Af (Cs I (Mv 2 I (Lq I (AJ I U49 I hl.kp) (Lq I (Ql I) (Nk ?_))))))
 refine CB 7 I (λh1=>?_) (λh1=>?_)
 .obtain⟨x,hx⟩:=gE l i
  have hok:=hk x (mQ hx)
  have hpv:0<i->∃y,l[i-1]?=some y/\Bq y.key x.key<0:=λh0=>by
   obtain⟨y,hy⟩:=gE l (i-1)
   exact⟨y,hy,D5 hr (i-1) i y x (by omega) hy hx⟩
  refine Ah I (Ae (Ks (Aj (Af (Do8 (rg 35) 45090157930322697 _ I St.drawn Ih (Md 2 I (Dq I (Ar i I U49 Z79 I hl.kp I I) (Dfa U79 I Z77 I (Dq I (BA (x.key.c) i 0 I G77 Z77 I I hl.kp hx (by decide) (En.kK _)) (d_e I (E1 (Ix x.key) I call60 Tt (λ_ _=>Ai Ih (Md 2 I (Sb 17 false I (by rw[hok.1];rfl) (Md 2 I (Dq I (Ar i I U49 Z79 I hl.kp I I) (Dfa U79 I Z56 I (Dq I (BA (x.val.c) i 9 I G56 Z56 I I hl.kp hx (by decide) (En.val_part _)) (d_e I (E1 (DV x.val) I call61 Tt (λ_ _=>Ai Ih (Md 3 I (Sb 26 false I (by rw[hok.2];rfl) (Dm I (Dq I (BQ I I I) (Dm I ?_))))))))))))))))))))))))))
  refine CB 29 I (λh2=>?_) (λh2=>?_)
  .obtain⟨y,hx2,hlt⟩:=hpv (by omega)
   refine Md 2 I (Dq I (CM I I I) (Dq I (Ar (i-1) I U49 Z79 I hl.kp I (by omega)) (Dfa U79 I Z77 I (Dq I (BA (y.key.c) (i-1) 0 I G77 Z77 I I hl.kp hx2 (by decide) (En.kK _)) (Md 2 I (Dq I (Ar i I U49 Z79 I hl.kp I I) (Dfa U79 I Z77 I (Dq I (BA (x.key.c) i 0 I G77 Z77 I I hl.kp hx (by decide) (En.kK _)) (d_e I (E1 (Lj y.key x.key (hk y (mQ hx2)).1 hok.1) I call62 Tt (λ_ _=>Ai Ih (Dq I (Qg I) (d_t I (e_q I I (Qy I) (d_t I (e_q I I (Qz I) (AL (Kt (Sf 44 I (by omega) (Aa I (Ae (Aw (Kt (Cr I (Lm I (Lq I (Qi I) (Las I (AB ?_))))))))))))))))))))))))))))
   exact AE (i+1) (by omega) (by omega) (Si I) (λ_ h=>h)
  .refine Md 13 I (d_t I (e_q I I (Qz I) (d_t I (e_q I I (Qz I) (AL (Kt (Aa I (Ae (Aw (Kt (Cr I (Lm I (Lq I (Qi I) (Las I (AB ?_)))))))))))))))
   exact AE (i+1) (by omega) (by omega) (Si I) (λ_ h=>h)
 .exact Aa I (AO (Ab (Ab (Am (Kt (Cs I (Ak I (Ag (Ao I I (λ_ h=>⟨(),rfl,T0,h⟩))))))))))
structure FiR where
 vc:Value
 r:FdR
theorem VR {m:HM} (hk:HOk z m B) (hB:B<=60000) {b:OpsR} {n nb nf fl:Nat} (h4:n<=4) (hl:∀o∈b.ops n,o.length<=1000) {s:List (Nat×Bool)} {P:Nat->Option Ans} {ord:List Nat} {mp:List En} (hh:HP (b.ops n) s P m.ev ord mp) (hsl:s.length=(b.ops n).length) (h12:(AS (b.ops n) m.ev).length<=12):Con prog 16 [ptV z.bH,.agg (cfC nb nf fl b.vo).toArray] Tr (b.H n++HC.H z m) (λs:FiR=>.tuple #[s.vc,s.r.v,.bool true]) (λs=>CompO (AS (b.ops n) m.ev) (List.replicate (AS (b.ops n) m.ev).length false) [] s.r.ord/\s.r.ord.length<=(AS (b.ops n) m.ev).length) (λs=>AA s.vc 60 Ca.enc (AS (b.ops n) m.ev)::AA s.r.v 3 (AH .i64) (nI2 s.r.ord)::(b.H n++HC.H z m)):=by
 intro w hE hH
 refine Ey func16 I hH (Cs I (l_e I (AT I I I I (λbc=>Ce (cfC nb nf fl b.vo) I (Mv 2 I (Ak I (Af (Do8 [0,2,3,1,4,5] 675 (λw2=>(Ad bc 27 (cfC nb nf fl b.vo)).at w2) I St.drawn (Hat 0 I) (Dm I (Dfa U27 I Z25 I (Dq I (Al I G25 I Ih I) (d_e I (Ee (Ad bc 27 (cfC nb nf fl b.vo)::b.H n) (TE hk) I call15 Tt (λve _=>Pre.world (St w _ ((AA ve 71 Evt.enc m.ev::(Ad bc 27 (cfC nb nf fl b.vo)::b.H n))++HC.H z m)) (λ_ h=>h.perm oa) (Ai (Hat 1 I) ?_)))))))))))))))
 obtain⟨s0,p0,p1,p2⟩:=hh.pth
 refine d_t I (AZ (QG m.ev (b.vs n) (b.ops n) (by have:=hk.ev;omega) (by rw[b.olen h4];omega) (λo ho=>mf (hl o ho) (by decide)) p2 p0 (by rw[p1,hsl]) hh.evk) I I I call29 I (λ_ h=>⟨h.rd 0 rfl,Ou h (λe he=>nG _ (nG _ (lO _ he)))⟩) (λvc _=>d_t I (e_q I I (AF I I) (AL (Kt (Cs I (Lm I (l_e I (IL (QK (AS (b.ops n) m.ev) h12 hh.cok) I I I call46 I Tt ?_)))))))))
 intro q hq
 have hok:q.ok=true:=by cases hx:q.ok with|true=>rfl|false=>exact absurd hh.comp.1.comp (hq.1 hx)
 exact Mv 4 I (Ak I (Cs I (Mv 5 I (Ak I (Ag (AX (Av (AX (Av (AM (Bg (rs:=[.tmp 4,.tmp 5,.tmp 6]) I I (λ_ h=>⟨(⟨vc,q⟩:FiR),congrArg Ending.returned (by rw[hok]),⟨hq.2.1 hok,hq.2.2⟩,h⟩))))))))))))
def ownB (t:Nat):ByteArray:=⟨#[111,119,110,UInt8.ofNat (97+t)]⟩
def Mf (t:Nat) (o:Opn):Opn:={o with key:=ownB t}
def Mg (t j:Nat) (l:List Opn):List Opn:=(l.take j).map (Mf t)++l.drop j
theorem Zq (t j:Nat) (l:List Opn):(Mg t j l).length=l.length:=by unfold Mg;rw[lp,mB,k9,lk];omega
theorem dw {l:List Opn} (h:l[j]?=some o):(Mg t j l)[j]?=some o:=by
 have:=(lR.1 h).1
 unfold Mg
 rw[lx (by rw[mB,k9];omega),mB,k9,ly,show j+(j-min j l.length)=j by omega];exact h
theorem Zr {l:List Opn} (h:l[j]?=some o):(Mg t j l).set j (Mf t o)=Mg t (j+1) l:=by
 have hlt:=(lR.1 h).1
 have e:=(lR.1 h).2
 unfold Mg
 rw[kV hlt,e,nT,h,mn,m6 _ _ (by rw[mB,k9];omega),mB,k9,show j-min j l.length=0 by omega]
 simp
theorem Zs (t:Nat) (l:List Opn):Mg t l.length l=l.map (Mf t):=by unfold Mg;rw[oG,List.drop_length,nS]
def OpsR.own (b:OpsR) (i:Nat):OpsR:=⟨b.vo,b.q0,b.q1,b.q2,b.q3,if 0<i then b.o0.map (Mf 0) else b.o0,if 1<i then b.o1.map (Mf 1) else b.o1,if 2<i then b.o2.map (Mf 2) else b.o2,if 3<i then b.o3.map (Mf 3) else b.o3⟩
def OpsR.row (b:OpsR):Nat->Sv×List Opn
 |0=>(b.q0,b.o0)
 |1=>(b.q1,b.o1)
 |2=>(b.q2,b.o2)
 |_=>(b.q3,b.o3)
def OpsR.H3 (b:OpsR):Nat->List Ent
 |0=>[AA b.q1.v 43 Opn.enc b.o1,AA b.q2.v 43 Opn.enc b.o2,AA b.q3.v 43 Opn.enc b.o3]
 |1=>[AA b.q0.v 43 Opn.enc b.o0,AA b.q2.v 43 Opn.enc b.o2,AA b.q3.v 43 Opn.enc b.o3]
 |2=>[AA b.q0.v 43 Opn.enc b.o0,AA b.q1.v 43 Opn.enc b.o1,AA b.q3.v 43 Opn.enc b.o3]
 |_=>[AA b.q0.v 43 Opn.enc b.o0,AA b.q1.v 43 Opn.enc b.o1,AA b.q2.v 43 Opn.enc b.o2]
theorem Zt (b:OpsR) (n:Nat) {i:Nat} (hi:i<4):((b.own i).H n).Perm (AA (b.row i).1.v 43 Opn.enc (b.row i).2::AA b.vo 40 C6 (b.vs n)::(b.own i).H3 i):=by
 match i,hi with
 |0,_=>exact List.Perm.swap _ _ _
 |1,_=>exact oa (l₁:=[_,_])
 |2,_=>exact oa (l₁:=[_,_,_])
 |3,_=>exact oa (l₁:=[_,_,_,_]) (l₂:=[])
theorem Zu (b:OpsR) (n:Nat) {i:Nat} (hi:i<4):(AA (b.row i).1.v 43 Opn.enc ((b.row i).2.map (Mf i))::AA b.vo 40 C6 (b.vs n)::(b.own i).H3 i).Perm ((b.own (i+1)).H n):=by
 match i,hi with
 |0,_=>exact List.Perm.swap _ _ _
 |1,_=>exact (oa (l₁:=[_,_])).symm
 |2,_=>exact (oa (l₁:=[_,_,_])).symm
 |3,_=>exact (oa (l₁:=[_,_,_,_]) (l₂:=[])).symm
theorem ia (b:OpsR) {n i:Nat} (hi:i<n) (h4:n<=4):(b.vs n)[i]?=some (b.row i).1:=by
 unfold OpsR.vs
 rw[pE hi]
 match i,(show i<4 by omega) with
 |0,_=>rfl
 |1,_=>rfl
 |2,_=>rfl
 |3,_=>rfl
theorem dx (b:OpsR) {n i:Nat} (hi:i<n) (h4:n<=4):(b.row i).2∈b.ops n:=by
 refine mQ (i:=i) ?_
 unfold OpsR.ops
 rw[pE hi]
 match i,(show i<4 by omega) with
 |0,_=>rfl
 |1,_=>rfl
 |2,_=>rfl
 |3,_=>rfl
theorem OA (b:OpsR) {n:Nat} (h4:n<=4):(b.own n).ops n=(b.ops n).mapIdx (λt l=>l.map (Mf t)):=by
 unfold OpsR.ops
 match n,h4 with
 |0,_=>rfl
 |1,_=>rfl
 |2,_=>rfl
 |3,_=>rfl
 |4,_=>rfl
def Zv (t:Nat):Kv 8:=kOf ⟨0,ownB t,⟨#[]⟩,0,by decide,by decide⟩
theorem dy:∀t u:Fin 4,Zv t.1=Zv u.1->t=u:=by decide +kernel
theorem dz (h4:n<=4):∀(t:Nat) (lo:List Opn),((b.own n).ops n)[t]?=some lo->∀o∈lo,kOf o=Zv t:=λt lo h o ho=>by
 rw[OA b h4,pB] at h
 cases hx:(b.ops n)[t]? with
 |none=>rw[hx] at h;cases h
 |some l =>
  rw[hx] at h
  cases h
  obtain⟨p,_,rfl⟩:=lP.1 ho
  rfl
theorem dA (h4:n<=4):((b.own n).ops n).map List.length=(b.ops n).map List.length:=by
 rw[OA b h4]
 apply lY
 intro i
 rw[lS,lS,pB]
 cases (b.ops n)[i]? with
 |none=>rfl
 |some l=>exact congrArg some (mB ..)
theorem dB (h4:n<=4) {l:List Opn} (h:l∈(b.own n).ops n):∃l0∈b.ops n,l.length=l0.length/\∀o∈l,o.key.size=4/\∃o0∈l0,o.kind=o0.kind:=by
 obtain⟨t,ht⟩:=oJ.1 h
 rw[OA b h4,pB] at ht
 cases hx:(b.ops n)[t]? with
 |none=>rw[hx] at ht;cases ht
 |some l0 =>
  rw[hx] at ht
  cases ht
  refine⟨l0,mQ hx,mB ..,λo ho=>?_⟩
  obtain⟨p,hp,rfl⟩:=lP.1 ho
  exact⟨rfl,p,hp,rfl⟩
structure OwnOk (own:Bool) (n:Nat) (b:OpsR):Prop where
 sum:((b.ops n).map List.length).sum<=12
 each:∀l∈b.ops n,l.length<=12/\∀o∈l,o.key.size<=9223372036854775807/\1<=o.kind/\o.kind<=4
 key:own=true->∀(t:Nat) (lo:List Opn),(b.ops n)[t]?=some lo->∀o∈lo,kOf o=Zv t
theorem OwnOk.of {k:Nat} {r:CfR} (h:CfOk k r) (hk:k<=12):OwnOk false r.n r.b:=by
 refine⟨?_,λl hl=>?_,λe=>(by cases e)⟩
 .have hlen:=h.len
  have h1:=h.n1
  have h4:=h.n4
  unfold OpsR.ops
  match r.n,h1,h4 with
  |1,_,_=>simp;omega
  |2,_,_=>simp;omega
  |3,_,_=>simp;omega
  |4,_,_=>simp;omega
 .have h1:=h.each hl
  refine⟨by omega,λo ho=>?_⟩
  have hg:OpG o:=by
   rcases OpsR.mem hl with e|e|e|e
   .exact h.ok o (.inl (e▸ho))
   .exact h.ok o (.inr (.inl (e▸ho)))
   .exact h.ok o (.inr (.inr (.inl (e▸ho))))
   .exact h.ok o (.inr (.inr (.inr (e▸ho))))
  obtain⟨a,b,c⟩:=hg
  exact⟨by omega,a,b⟩
theorem OwnOk.own (h:OwnOk false n b) (h4:n<=4):OwnOk true n (b.own n) :=
 ⟨by rw[dA h4];exact h.sum,λl hl=>by
  obtain⟨l0,h1,h2,h3⟩:=dB h4 hl
  obtain⟨a1,a2⟩:=h.each l0 h1
  refine⟨by omega,λo ho=>?_⟩
  obtain⟨e1,o0,e2,e3⟩:=h3 o ho
  have:=(a2 o0 e2).2
  exact⟨by omega,by omega,by omega⟩,λ_=>dz h4⟩
theorem dC (h:i<4):(⟨#[111,119,110]⟩:ByteArray)++strOfNums [((97+i:Nat):Int)]=ownB i:=by
 match i,h with
 |0,_=>rfl
 |1,_=>rfl
 |2,_=>rfl
 |3,_=>rfl
theorem ib {m:HM} (k:HOk z m B):((sX m).map (λp=>p.1+if p.2=true then 1 else 0)).sum<=(m.cs.map (λc=>c.ops.length)).sum:=by
 unfold sX
 have key:∀l:List Cl,(∀c∈l,c.nx<=c.ops.length/\(c.ph.isI=false->c.nx<c.ops.length))->((l.map (λc=>(c.nx,!c.ph.isI))).map (λp=>p.1+if p.2=true then 1 else 0)).sum<=(l.map (λc=>c.ops.length)).sum:=λl=>by
  induction l with
  |nil=>intro _;exact lJ _
  |cons c l ih =>
   intro h
   have h1:=ih (λd hd=>h d (nG _ hd))
   have h2:=h c (ns ..)
   simp only[ma,pC]
   cases hx:c.ph.isI with
   |true=>simp at h1 ⊢;omega
   |false=>have:=h2.2 hx;simp at h1 ⊢;omega
 exact key m.cs (λc hc=>⟨(k.ol c hc).2.1,(k.ol c hc).2.2⟩)
theorem Way2.c12 {x:HM} (h:Way2 ls nb x n) (h12:(ls.map List.length).sum<=12) {z:HC} {B:Nat} (k:HOk z x B) {P:Nat->Option Ans} {ord:List Nat} {mp:List En} (hh:HP ls (sX x) P x.ev ord mp):(AS ls x.ev).length<=12/\(sX x).length=ls.length:=by
 have h1:=ib k
 have e:(x.cs.map (λc=>c.ops.length)).sum=(ls.map List.length).sum:=by rw[<-h.ops,mY];rfl
 have h2:=hh.len
 refine⟨by omega,?_⟩
 rw[<-h.ops]
 unfold sX
 rw[mB,mB]
theorem Zw {x:HM} (h:x.cs.all Cl.ended):∀p∈sX x,p.2=false:=λp hp=>by
 unfold sX at hp
 obtain⟨c,hc,rfl⟩:=lP.1 hp
 have:=np.1 h c hc
 unfold Cl.ended at this
 rw[mz] at this
 show (!c.ph.isI)=false
 rw[this.1];rfl
theorem LU (l:List Ca) (k:Nat):∀(q:List Nat) (m:List En),Ea l (q++[k]) m=(Bj (Ea l q m) (l.getD k ca0)).1
 |[],_=>rfl
 |_::q,_=>LU l k q _
theorem LV (l:List Ca):∀(q:List Nat) {m:List En} {n:Nat},MapOk m n->MapOk (Ea l q m) (n+q.length)
 |[],_,_,h=>h
 |k::q,_,n,h=>by
  have:=LV l q (h.step (l.getD k ca0))
  rw[kQ,show n+(q.length+1)=n+1+q.length by omega];exact this
theorem CompO.at' (h:CompO l d m q):∀(i k:Nat),q[i]?=some k->k<l.length/\(Bj (Ea l (q.take i) m) (l.getD k ca0)).2=true:=by
 induction h with
 |over h=>intro i k hk;simp at hk
 |step j hj hf hs h ih =>
  intro i k hk
  cases i with
  |zero=>cases hk;exact⟨hj,hs⟩
  |succ i=>exact ih i k (by simpa using hk)
theorem Zx {X:List Ent} {mv:Sv} {l l':List En} (h:RIn X mv.v l) {r:Sv×List Ent} (hr:(r=(mv,[])/\l'=l)\/r.2=[AA r.1.v 79 En.enc l']):RIn (r.2++X) r.1.v l':=by
 rcases hr with⟨rfl,rfl⟩|h1
 .exact h.more (λe he=>he)
 .rw[h1];exact .inr (ns ..)
theorem VS {own:Bool} (v:Int) (xs picks:List Int) (hpl:picks.length<=9223372036854775807):Con prog 4 [.int .i64 v,va,vp,.bool own] (λw=>RdV w va (AH .i64) xs/\RdV w vp (AH .u8) picks) [] (λ_:Unit=>.bool true) Tr (λ_=>[]):=by
 intro w hE hH
 obtain⟨hl,hp⟩:=hE
 refine E0 func4 I hH (Cs I (Ak I (Cs I (Mv 2 I (l_e I (BV (YW v xs) I I I call11 I hl.kp ?_))))))
 rintro s0 ⟨hcf,hz⟩
 obtain⟨z,⟨nb,nf,f,n,b⟩⟩:=s0
 refine Pre.world (St w [] (b.H n++HC.H z (hmS nb nf f (b.ops n)))) (λ_ h=>by rw[nS] at h;exact h) ?_
 refine Pre.fact (λ_ h=>BW (h.at 0 I)) ?_
 rintro⟨va3,vc3,hvo⟩
 have hcf2:=hcf
 obtain⟨h1n,h4n,hf3,hnf1,hnf2,hnb1,hnb2,_,_⟩:=hcf2
 dsimp only at h1n h4n hf3 hnf1 hnf2 hnb1 hnb2
 have hone:∀v∈cfC nb nf f b.vo,v.oneCell'=true:=by rw[hvo];exact Jj _ _ _ _ _ _
 refine Mv 3 I (l_e I (Au I I I zeroValue27 (λbc=>Ce [.int .i64 0,.int .i64 0,.int .i64 0,.slice none 0 0] I (Las I (l_e I (SA Z27 I hone (Ce (cfC nb nf f b.vo) I (Ns (Cs I (Lm I (Lq I (DS I U24 I I) (Nk (Sb 31 false I (I) (Aa I (Ae (Ks (Cs I (Lm I (Nk ?_)))))))))))))))))))
 have hok0:OwnOk false n b:=OwnOk.of hcf (Nat.min_le_right _ _)
 have hln0:=b.olen h4n
 have hvl0:=b.vlen h4n
 refine Dw (λ(z:HC) (b:OpsR)=>[(2,vp),(3,.bool own),(9,ptV z.bH),(10,ptV bc)]) (λ(z:HC) (b:OpsR)=>St w [] (Ad bc 27 (cfC nb nf f b.vo)::(b.H n++HC.H z (hmS nb nf f (b.ops n))))) (λ(z:HC) (b:OpsR)=>HOk z (hmS nb nf f (b.ops n)) 0/\OwnOk own n b) ?_ ?_
 .refine Pre.caseB 32 I (λhown=>?_) (λhown=>?_)
  .refine Ah I (Af (Cs I (Ak I (Aj (Pre.world (St w [] (Ad bc 27 (cfC nb nf f b.vo)::b.H n)) (λ_ h=>h.sublist (List.Sublist.cons_cons _ (List.sublist_append_left _ _))) ?_)))))
   refine A0 (λ(i:Nat)=>[(2,vp),(3,.bool own),(10,ptV bc),(11,.int .i64 (i:Int))]) (λ(i:Nat)=>St w [] (Ad bc 27 (cfC nb nf f b.vo)::(b.own i).H n)) (λ(i:Nat)=>i<=n) (λ(i:Nat)=>n-i) (0) (lK _) (Si I) (λ_ h=>by rw[show b.own 0=b from by cases b;rfl];exact h) (λi hin=>Af (Af ?_))
   have hvi:=(b.own i).vlen h4n
   refine Cr I (Lm I (Lfa U27 I Z25 I (Lo G25 0 I (Lq I (AJ I U25 I (Hrd 1 I)) (Lq I (Ql I) (Nk (CB 37 I (λh1=>?_) (λh1=>?_))))))))
   .have hi4:i<4:=by omega
    have hs:=ia b (show i<n by omega) h4n
    refine Pre.world (St w [] (Ad bc 27 (cfC nb nf f b.vo)::AA (b.row i).1.v 43 Opn.enc (b.row i).2::AA b.vo 40 C6 (b.vs n)::(b.own i).H3 i)) (λ_ h=>h.perm ((Zt b n hi4).cons _)) ?_
    have hps:=Zu b n hi4
    have hlo:=(hok0.each _ (dx b (show i<n by omega) h4n)).1
    generalize (b.row i).2=lo at hps hlo ⊢
    generalize (b.row i).1=sv at hps hs ⊢
    obtain⟨ra,rn,rc⟩:=sv
    refine Pre.fact (λ_ h=>BW (h.at 1 I)) ?_
    rintro⟨ra2,rc2,hrs⟩
    cases hrs
    refine Ah I (Ae (Ks (Aj (Cs I (Ak I (Aj ?_))))))
    refine A0 (λ(j:Nat)=>[(2,vp),(3,.bool own),(10,ptV bc),(11,.int .i64 (i:Int)),(12,.int .i64 (j:Int))]) (λ(j:Nat)=>St w [] (Ad bc 27 (cfC nb nf f b.vo)::AA (.slice ra lo.length rc) 43 Opn.enc (Mg i j lo)::AA b.vo 40 C6 (b.vs n)::(b.own i).H3 i)) (λ(j:Nat)=>j<=lo.length) (λ(j:Nat)=>lo.length-j) (0) (lK _) (Si I) Ih (λj hjl=>Af (Af ?_))
    have hol:=Zq i j lo
    refine Cr I (Lm I (Lfa U27 I Z25 I (Lo G25 0 I (Lm I (Lq I (Ar i I U25 Z40 I (Hrd 2 I) I I) (Lq I (AI i 0 I G40 I I (Hrd 2 I) hs I) (Lq I (AJ I U40 I (Hrd 1 I)) (Lq I (Ql I) (Nk (CB 47 I (λh2=>?_) (λh2=>?_)))))))))))
    .obtain⟨op,hop⟩:=gE lo j
     have hoj:=dw (t:=i) hop
     refine Ah I (Ae (Ks (Aj (Do8 (rg 15) 13896198 (λw2=>(Ad bc 27 (cfC nb nf f b.vo)).at w2/\RdV w2 b.vo C6 (b.vs n)) I St.drawn (Hb 0 2 I) (Dfa U27 I Z25 I (Dq I (Al I G25 I (λ_ h=>h.1) I) (Dm I (Dq I (Ar i I U25 Z40 I (λ_ h=>h.2) I I) (Dq I (AI i 0 I G40 I I (λ_ h=>h.2) hs I) (Md 2 I (Dq I (Bh I I I) (Dq I (Bu I U3 U5 I (BS)) (d_e I (Ax (sz:=1) [.tmp 58] I I I I I U23 Z5 I zeroValue5 I (λb2=>Ai (Hb 1 3 I) (d_e I (e_q I I (E6 I U23 U5 U9 I (λ_ h=>AY (h.at 0 I) (AH .u8) [((97+i:Nat):Int)] I I)) (Ai (Hb 1 3 I) (Dq I (q_addS I I I (ng I)) (d_t I (e_q I I (Ar j I U40 Z43 I (Hrd 2 I) I I) (d_t I (e_q I I (Ba I U43 I Z9 I I) (Sv' 61 (.string (ownB i)) I (congrArg Value.string (dC hi4)) (AX (d_t I (Ct j 1 ((Mf i op)) I I Z9 I I I hoj (by decide) I (AL (Aw (Kt (Cr I (Lm I (Lq I (Qi I) (Las I (AB (AM (Av (AX ?_))))))))))))))))))))))))))))))))))))))
     refine Pm [2,1] I ?_
     exact AE (j+1) (by omega) (by omega) (Si I) (λ_ h=>by rw[<-Zr hop];exact h)
    .refine Aa I (AO (Ab (Ab (Am (Aw (Kt (Cr I (Lm I (Lq I (Qi I) (Las I (AB ?_)))))))))))
     have hje:lo.length=j:=by omega
     subst hje
     exact AE (i+1) (by omega) (by omega) (Si I) (λ_ h=>by rw[Zs] at h;exact h.perm (hps.cons _))
   .have hie:n=i:=by omega
    subst hie
    refine Aa I (AO (Ab (Ab (Am (Kt (Cs I (Lq I (Cq _ G27 Z27 0 I I I) ?_)))))))
    have hok2:=hok0.own h4n
    have hln:=(b.own n).olen h4n
    refine Pre.world (St w [] ((Ad bc 27 (cfC nb nf f b.vo)::(b.own n).H n)++[])) (λ_ h=>by rw[nS];exact h) ?_
    refine l_e I (Ig (Ad bc 27 (cfC nb nf f b.vo)::(b.own n).H n) (HA:=[]) (Yd (vs:=(b.own n).vs n) (ls:=(b.own n).ops n) (nb:=nb) (nf:=nf) (fl:=f) hnb1 (by omega) hf3 (by omega) (by omega) (by omega) (by omega) (λl hl=>by have:=(hok2.each l hl).1;omega) (λl hl o ho=>((hok2.each l hl).2 o ho).2)) I I I call18 I (λ_ h=>Ou h (λe he=>lO _ (nG _ he))) (λz2 hz2=>Pw (St w [] ((Ad bc 27 (cfC nb nf f b.vo)::(b.own n).H n)++HC.H z2 (hmS nb nf f ((b.own n).ops n)))) ?_))
    refine Mv 4 I (Ak I (Af (Cs I (Mv 3 I (Sb 71 false I (I) (Lm I (Lq I (DS I U24 I I) (Mv 2 I (Sb 75 false I (I) (Lm I (l_e I (Ee (Ad bc 27 (cfC nb nf f b.vo)::(b.own n).H n) (MX hz2) I call19 Tt (λ_ _=>Pw (St w [] ((Ad bc 27 (cfC nb nf f b.vo)::(b.own n).H n)++HC.H z2 (hmS nb nf f ((b.own n).ops n)))) ?_)))))))))))))
    refine Lq I (DS I underlying47 I I) (Lq I (Qz I) (Nk (Sb 79 false I (I) (Aa I (Ae (Kt (Cr I (Mv 2 I (AB ?_)))))))))
    have hown2:OwnOk own n (b.own n):=by rw[hown];exact hok2
    exact Bc ((z2,(b.own n))) ⟨hz2,hown2⟩ (Si I) (λ_ h=>h)
  .refine Aa I (Ae ?_)
   have hown2:OwnOk own n b:=by rw[hown];exact hok0
   exact Bc ((z,b)) ⟨hz,hown2⟩ (Si I) (λ_ h=>h)
 .intro z b hm
  obtain⟨hz,hok⟩:=hm
  have hln:=b.olen h4n
  have hvl:=b.vlen h4n
  refine Af (Cs I (Ak I (Aj ?_)))
  obtain⟨N0,hN0,hW0⟩:=Way2.begin (nb:=nb) (nf:=nf) (fl:=f) (ls:=b.ops n) hnb1 (by omega) (by omega) (λl hl o ho=>by obtain⟨a1,a2,a3⟩:=(hok.each l hl).2 o ho;exact⟨a1,by omega⟩) hok.sum
  refine SI (λ(i:Nat) (z:HC) (m:HM) (N:Nat)=>[(2,vp),(3,.bool own),(9,ptV z.bH),(10,ptV bc),(15,.int .i64 (i:Int))]) (λ(i:Nat) (z:HC) (m:HM) (N:Nat)=>St w [] ((Ad bc 27 (cfC nb nf f b.vo)::b.H n)++HC.H z m)) (λ(i:Nat) (z:HC) (m:HM) (N:Nat)=>Way2 (b.ops n) nb m N/\HOk z m (2*i)/\m.pk<=i/\N+i<=2200) (λ(i:Nat) (z:HC) (m:HM) (N:Nat)=>8000-i) (0) (z) ((hmS nb nf f (b.ops n))) (N0) ⟨hW0,hz,lK _,by omega⟩ (Si I) Ih (λi z m N hpp=>Af (Af ?_))
  obtain⟨hW,hk,hpk,hNi⟩:=hpp
  refine Cr I (Mv 3 I (St' 83 I (by omega) (Lm I (l_e I (Ee (Ad bc 27 (cfC nb nf f b.vo)::b.H n) (RZ hk) I call12 Tt (λ_ _=>Pw (St w [] ((Ad bc 27 (cfC nb nf f b.vo)::b.H n)++HC.H z m)) (Mv 2 I (Nk (CB 87 I (λhend=>?_) (λhend=>?_))))))))))
  .refine Ah I (Ae (Ks (Aj (Cr I (Mv 4 I (l_e I (Ee (Ad bc 27 (cfC nb nf f b.vo)::b.H n) (jq hk picks hpl i (by omega)) I call14 hp.kp (λpk _=>Pw (St w [] ((Ad bc 27 (cfC nb nf f b.vo)::b.H n)++HC.H z m)) ?_))))))))
   obtain⟨hPre,hQ,hpk2,N2,hN2,hW2⟩:=hW.step hnb1 hend pk
   refine l_e I (Ee (Ad bc 27 (cfC nb nf f b.vo)::b.H n) (It hk (by omega) (by omega) hPre pk hQ) I call13 Tt ?_)
   rintro y ⟨hy1,hy2⟩
   refine Pw (St w [] ((Ad bc 27 (cfC nb nf f b.vo)::b.H n)++HC.H y (kF m pk))) ?_
   refine AB (Aw (Kt (Cr I (Lm I (Lq I (Qi I) (Las I (AB (Sv' 9 (ptV y.bH) I (by rw[hy1]) ?_))))))))
   exact AE ((i+1,y,kF m pk,N2)) (by dsimp only;omega) ⟨hW2,hy2,mf hpk2 (Nat.add_le_add_right hpk 1),by dsimp only;omega⟩ (Si I) (λ_ h=>h)
  .refine Aa I (AO (Ab (Ab (Am (Kt (Cs I (Lm I (l_e I (Ee (Ad bc 27 (cfC nb nf f b.vo)::b.H n) (MX hk) I call19 Tt (λ_ _=>Pw (St w [] ((Ad bc 27 (cfC nb nf f b.vo)::b.H n)++HC.H z m)) ?_))))))))))
   obtain⟨mm,hre,hmn,⟨P,ord,mp,hHP,hfind⟩,hmap⟩:=hW.fin hk
   obtain⟨h12,hsl⟩:=hW.c12 hok.sum hk hHP
   refine l_e I (Ee (Ad bc 27 (cfC nb nf f b.vo)::b.H n) (hmap) I call20 Tt (λvm _=>Pre.world (St w _ ((AA vm 79 En.enc mm::(Ad bc 27 (cfC nb nf f b.vo)::b.H n))++HC.H z m)) (λ_ h=>h.perm oa) (Ak I (Cs I (Lm I (Lq I (Cq _ G27 Z27 1 I I I) (l_e I (Ee [AA vm 79 En.enc mm,Ad bc 27 (cfC nb nf f b.vo)] (VR hk (by omega) h4n (λl hl=>by have:=(hok.each l hl).1;omega) hHP hsl h12) I call16 Tt (λq2 hq2=>Pw (St w [] ((AA vm 79 En.enc mm::Ad bc 27 (cfC nb nf f b.vo)::AA q2.vc 60 Ca.enc (AS (b.ops n) m.ev)::AA q2.r.v 3 (AH .i64) (nI2 q2.r.ord)::b.H n)++HC.H z m)) ?_)))))))))
   refine Mv 6 I (Ak I (Af (Cs I (Lm I (l_e I (Ee (AA vm 79 En.enc mm::Ad bc 27 (cfC nb nf f b.vo)::AA q2.vc 60 Ca.enc (AS (b.ops n) m.ev)::AA q2.r.v 3 (AH .i64) (nI2 q2.r.ord)::b.H n) (RZ hk) I call12 Tt (λ_ _=>Pw (St w [] ((AA vm 79 En.enc mm::Ad bc 27 (cfC nb nf f b.vo)::AA q2.vc 60 Ca.enc (AS (b.ops n) m.ev)::AA q2.r.v 3 (AH .i64) (nI2 q2.r.ord)::b.H n)++HC.H z m)) ?_)))))))
   refine Mv 2 I (Sb 109 false I (by rw[hend];rfl) (Mv 3 I (Nk (Aa I (Ae (Ks (Cs I (Mv 2 I (Nk ?_)))))))))
   obtain⟨hq3,hq4⟩:=hHP.found (Zw hend) hq2.1
   have hol:(nI2 q2.r.ord).length=q2.r.ord.length:=mB ..
   refine CB 114 I (λhown=>?_) (λhown=>?_)
   .exact Ah I (Cs I (Lm I (l_e I (E1 (Oz mm hre.r hre.ok hmn) I call21 (Hrd 0 I) (λ_ _=>Lm I (Sb 117 true I (I) (Lm I (Lq I (AJ I U22 I (Hrd 3 I)) (Lm I (Lq I (AJ I U36 I (Hrd 2 I)) (Mv 3 I (St' 124 I (by omega) (l_e I (E1 (Li) I call17 Tt (λ_ _=>Lq I (Qy I) (Ak I (Ag (Ac (Ao I I (λ_ h=>⟨(),rfl,T0,h.kv⟩))))))))))))))))))))
   .refine Aa I (Ae (Kt (Cs I (Ak I (Af (Cs I (Ak I (Aj ?_))))))))
    have hall:=hq4 (f:=Zv) (λt u ht hu e=>congrArg Fin.val (dy ⟨t,by omega⟩ ⟨u,by omega⟩ e)) (hok.key hown) hre hfind
    have hmok:=LV (AS (b.ops n) m.ev) q2.r.ord MapOk.nil
    have hlen:mm.length<=1000:=by rw[hall];have:=hmok.len;omega
    refine Fp (λ(i:Nat) (mv:Sv) (X:List Ent)=>[(16,vm),(17,q2.vc),(18,q2.r.v),(20,mv.v),(21,.int .i64 (i:Int))]) (λ(i:Nat) (mv:Sv) (X:List Ent)=>St w [] (AA vm 79 En.enc mm::AA q2.vc 60 Ca.enc (AS (b.ops n) m.ev)::AA q2.r.v 3 (AH .i64) (nI2 q2.r.ord)::X)) (λ(i:Nat) (mv:Sv) (X:List Ent)=>i<=q2.r.ord.length/\RIn X mv.v (Ea (AS (b.ops n) m.ev) (q2.r.ord.take i) [])) (λ(i:Nat) (mv:Sv) (X:List Ent)=>q2.r.ord.length-i) (0) (sv0) ([]) ⟨lK _,.inl ⟨rfl,rfl⟩⟩ (Si I) (λ_ h=>h.sublist (List.Sublist.cons_cons _ (List.Sublist.cons _ (List.Sublist.cons_cons _ (List.Sublist.cons_cons _ (nF _)))))) (λi mv X hyp=>Af (Af ?_))
    obtain⟨hi,hri⟩:=hyp
    refine Cr I (Mv 2 I (Lq I (AJ I U22 I (Hrd 2 I)) (Lq I (Ql I) (Nk (CB 130 I (λh1=>?_) (λh1=>?_))))))
    .obtain⟨k,hk1⟩:=gE q2.r.ord i
     obtain⟨hkl,hks⟩:=hq2.1.at' i k hk1
     obtain⟨c,hck⟩:∃c,(AS (b.ops n) m.ev)[k]?=some c:=⟨_,kY hkl⟩
     have hcd:(AS (b.ops n) m.ev).getD k ca0=c:=by rw[om,hck];rfl
     have hoi:(nI2 q2.r.ord)[i]?=some (k:Int):=by unfold nI2;rw[lS,hk1];rfl
     rw[hcd] at hks
     have hsn:Ea (AS (b.ops n) m.ev) (q2.r.ord.take (i+1)) []=(Bj (Ea (AS (b.ops n) m.ev) (q2.r.ord.take i) []) c).1:=by rw[nT,hk1];show Ea _ (_++[k]) _=_;rw[LU,hcd]
     refine Ah I (Ae (Ks (Aj (Cs I (Mv 4 I (Lq I (Ar i I U22 Z3 I (Hrd 2 I) I I) (Lq I (AI i 0 I G3 I I (Hrd 2 I) hoi I) (Lq I (Ar k I U36 Z60 I (Hrd 1 I) I I) (Lq I (AV k I G60 Z60 I I (Hrd 1 I) hck) (l_e I (BV (Nb (Ea (AS (b.ops n) m.ev) (q2.r.ord.take i) []) c ((LV (AS (b.ops n) m.ev) (q2.r.ord.take i) MapOk.nil).mono (by rw[k9];omega)) (hHP.cok c (mQ hck))) I I I call22 I (λ_ h=>hri.rd h (λe he=>nG _ (nG _ (nG _ he)))) ?_)))))))))))
     rintro r hr
     refine Pre.world (St w [] (AA vm 79 En.enc mm::AA q2.vc 60 Ca.enc (AS (b.ops n) m.ev)::AA q2.r.v 3 (AH .i64) (nI2 q2.r.ord)::(r.2++X))) (λ_ h=>h.perm (pe r.2 [_,_,_] X)) ?_
     refine Mv 4 I (Ak I (Af (Cs I (Mv 2 I (Nk (Sb 146 false I (by rw[hks];rfl) (Aa I (Ae (Kt (Cr I (Mv 2 I (AB (Aw (Kt (Cr I (Lm I (Lq I (Qi I) (Las I (AB ?_)))))))))))))))))))
     exact AE ((i+1,r.1,r.2++X)) (by dsimp only;omega) ⟨by dsimp only;omega,by dsimp only;rw[hsn];exact Zx hri hr⟩ (Si I) (λ_ h=>h)
    .have hie:q2.r.ord.length=i:=by omega
     subst hie
     rw[oG,<-hall] at hri
     exact Aa I (AO (Ab (Ab (Am (Kt (Cs I (Mv 2 I (l_e I (E1 (Ln mm mm hlen) I call23 (λ_ h=>⟨h.rd 0 rfl,hri.rd h (λe he=>nG _ (nG _ (nG _ he)))⟩) (λ_ _=>Lm I (St' 151 I I (l_e I (E1 (Li) I call17 Tt (λ_ _=>Lq I (Qy I) (Ak I (Ag (Ao I I (λ_ h=>⟨(),rfl,T0,h.kv⟩))))))))))))))))))
theorem Zy (l:List Int):(AH .i64).flat l=l.map (.int .i64):=Mq (AH .i64) (Value.int .i64) (λ_=>rfl) l
theorem topMap_walk (w:World) (a0:Int) (w0:(Lit.int .i64 a0).wf) (A1:Option Addr) (c1:Nat) (z1:List Int) (rd1:Rd w w.heap.size A1 (z1.map (.int .i64))) (l1:z1.length<=c1) (m1:c1<=maxLen) (w1:∀z∈z1,(Lit.int .i64 z).wf=true) (A2:Option Addr) (c2:Nat) (z2:List Int) (rd2:Rd w w.heap.size A2 (z2.map (.int .u8))) (l2:z2.length<=c2) (m2:c2<=maxLen) (w2:∀z∈z2,(Lit.int .u8 z).wf=true) (a3:Bool) :
 Calls prog 4 #[.int .i64 a0,.slice A1 z1.length c1,.slice A2 z2.length c2,.bool a3] w λe w'=>e=.returned (.bool true)/\Below w.heap.size w w':=by
 rw[<-Zy] at rd1
 rw[<-GV] at rd2
 exact Wd (VS a0 z1 z2 (mf l2 (mf m2 (lJ _)))) ⟨Wb rd1 l1,Wb rd2 l2⟩
end Go.Proofs.YtloldofjddbjoaaGreat
