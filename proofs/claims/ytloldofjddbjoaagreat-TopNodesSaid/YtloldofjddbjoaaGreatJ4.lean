/- Part 4. -/
import Derived.Test.YtloldofjddbjoaaGreatJ3
set_option linter.all false
set_option maxHeartbeats 8000000
set_option maxRecDepth 100000
namespace Go.Proofs.YtloldofjddbjoaaGreat
open Go.Sep Go.RowKit Tryz
variable {M:Mo} {bc B i j k sz:Nat} {α β:Type} {b t a:Int} {w w0:d7} {va v:d0} {T G pre:ci} {e:Nr} {y y':Vw} {D:bm} {x:d5} {m:Array MapEntry} {Q:Prop} {u:d4} {q:Int×Int} {fl:cO} {f:FC}
def It (m:Ms):Df prog 306 [.agg m.c.toArray] Tr [] (λ_:Unit=>aa<|Qq m) Tr (λ_=>[]):=by
 intro w b z;refine E0 func306 I z<|Y I<|Z I<|AT I I I I<|λe=>Ce m.c I<|A I<|E<|Y I<|U I xT<|Z I<|E1 (Lr m) I call313 Tt<|λ_ _=>U I (Qt I)<|Nk<|CB 6 I (λhm=>?_)<|λhm=>?_
 .exact Am I<|Y I<|A I<|s<|Ag<|Av I I<|λ_ h=>⟨(),congrArg Ei (by unfold Qq; rw[pQ<|by rw[hm]; simp]),T0,h.oS⟩
 have d:=J3 hm;refine Ab I<|Ah<|Kt<|Y I<|N BR I MW I<|N Pn I Z3 I<|Lo G3 0 I<|U I py<|A I<|E<|Y I<|N BR I Z3 I<|Lo G3 0 I<|Nk<|Af<|Y I<|U I (Qe I)<|A I<|CB 13 I (λx=>?_)<|λx=>?_
 .have a:=J4 hm x;exact Am I<|Cr I<|r I<|N BR I O6 I<|N VX I Z3 I<|U I (Aj I G3 I uP<|Ms.fZ _)<|U I py<|U I py<|Nh I<|AE vn
 refine Ab I (Y I<|U I (Qe I)<|A I<|CB 21 I (λy=>?_)<|λy=>?_)
 .exact Am I<|Cr I<|r I<|U I py<|Nh I<|AE vn
 exact Ab I<|Ah vn
def Jq (a b:Ms):Df prog 180 [.agg a.c.toArray,.agg b.c.toArray] Tr [] (λ_:Unit=>.agg (QE a b).c.toArray) Tr (λ_=>[]):=by
 intro w j f;refine E0 func180 I f<|Y I<|Z I<|AT I I I I<|λi=>Ce a.c I<|Z I<|AT I I I I<|λk=>Ce b.c I<|Z I<|Ax I I I zeroValue154<|λl=>Ce ms0.c I<|Ns<|Y I<|N BR I Z3 I<|Lo G3 1 I<|C 2 I<|CB 8 I (λd=>?_)<|λd=>?_
 .refine C 6 I (Nk<|Am I<|Y I<|U I (Cq b.c Ck Bi 1 I (BF _) OM)<|Z I<|AF I I Bi I I OM RZ uy<|Ce b.c (Sep.oR<|by simp only[Kv.oQ,Ms.oQ])<|Nk<|s<|Ag<|CE I xC ?_)
  exact λ_ h=>⟨(),congrArg (λz=>Ending.returned<|Value.agg (Ms.c z).toArray) (show b=QE a b from by
   unfold QE
   simp_all [Ms.setKind,Ms.SL,Ms.TA,Ms.ZL]),T0,h.oS⟩
 refine N BR I MW I (U I (Cq a.key.c OO MW 2 I Wq Nw)<|N BR I MW I<|U I (Cq b.key.c OO MW 1 I Wq Nw)<|U I (mn a.key b.key I I I)<|U I (Qz I)<|Nk<|CB 14 I (λy=>?_)<|λy=>?_)
 .refine Am I (Y I<|U I (Cq b.c Ck Bi 1 I (BF _) OM)<|Z I<|AF I I Bi I I OM RZ uy<|Ce b.c (Sep.oR<|by simp only[Kv.oQ,Ms.oQ])<|Nk<|s<|Ag<|CE I xC ?_)
  exact λ_ h=>⟨(),congrArg (λz=>Ending.returned<|Value.agg (Ms.c z).toArray) (show b=QE a b from by
   unfold QE
   simp_all [Ms.setKind,Ms.SL,Ms.TA,Ms.ZL]),T0,h.oS⟩
 refine Ab I (Ah<|Ks<|Y I<|N BR I Z3 I<|Lo G3 2 I<|Nk<|Af<|E<|Af<|E<|Af<|E<|Af<|E<|E<|Y I<|U I (Qe I)<|A I<|CB 18 I (λx=>?_)<|λx=>?_)
 .refine Am I (AP<|Aa<|Aa<|Ar<|Kt<|Cr I<|U I Yk<|N BR I O6 I<|AQ<|Z I<|AF I I O6 I I Nw PU nY<|Bb aK<|AE<|Au<|Kt<|Y I<|N BR I O6 I<|U I (Cq ((a.SL<|Na 16).val.c) Tz O6 0 I (Ms.WU _) Nw)<|N BR I Qb I<|U I nO<|Z I<|E1 (J5 (a.SL<|Na 16).val _) I call223 Tt<|λ_ _=>N BR I Z3 I<|AQ<|Z I<|AB I I Z3 I I I bV<|Bb (Ms.Xdn _ _ A2)<|N BR I O6 I<|Z I<|AF I I O6 I I Nw PU nY<|Bb aK<|N BR I Qb I<|Z I<|AB I I Qb I I I bV<|Bb (Ms.fQ _ _ A2)<|Nk<|AP<|Ao I<|Aa<|Ar<|Kt<|Y I<|U I (Cq ((((b.setKind 1 A2).SL<|E5 (a.SL<|Na 16).val b.by').TA (0) A2).c) Ck Bi 0 I (BF _) OM)<|AQ<|Z I<|AF I I Bi I I OM RZ uy ?_);refine Ce (((b.setKind 1 A2).SL<|E5 (a.SL<|Na 16).val b.by').TA (0) A2).c (Sep.oR<|by simp only[Kv.oQ,Ms.oQ])<|Nk<|s<|CE I xC ?_
  exact λ_ h=>⟨(),congrArg (λz=>Ending.returned<|Value.agg (Ms.c z).toArray) (show (((b.setKind 1 A2).SL<|E5 (a.SL<|Na 16).val b.by').TA (0) A2)=QE a b from by
   unfold QE
   simp_all [Ms.setKind,Ms.SL,Ms.TA,Ms.ZL]),T0,h.oS⟩
 refine Ab I (Ah<|Ks<|Y I<|U I (Qe I)<|A I<|CB 20 I (λe=>?_)<|λe=>?_)
 .refine Am I (AP<|Aa<|Aa<|Ao I<|Aa<|Ar<|Kt<|Y I<|N BR I O6 I<|U I (Cq a.val.c Tz O6 2 I (Ms.WU _) Nw)<|N BR I Qb I<|U I lY<|Z I<|E1 (J5 a.val _) I call223 Tt<|λ_ _=>N BR I Z3 I<|AD<|Z I<|AB I I Z3 I I I bV<|Bb (Ms.Xdn _ _ A2)<|N BR I O6 I<|Z I<|AF I I O6 I I Nw PU nY<|Bb aK<|N BR I Qb I<|Z I<|AB I I Qb I I I bV<|Bb (Ms.fQ _ _ A2)<|Nk<|AP<|Ao I<|Aa<|Ar<|Kt<|Y I<|U I (Cq ((((b.setKind 1 A2).SL<|E5 a.val b.by').TA (0) A2).c) Ck Bi 0 I (BF _) OM)<|AD<|Z I<|AF I I Bi I I OM RZ uy ?_);refine Ce (((b.setKind 1 A2).SL<|E5 a.val b.by').TA (0) A2).c (Sep.oR<|by simp only[Kv.oQ,Ms.oQ])<|Nk<|s<|CE I xC ?_
  exact λ_ h=>⟨(),congrArg (λz=>Ending.returned<|Value.agg (Ms.c z).toArray) (show (((b.setKind 1 A2).SL<|E5 a.val b.by').TA (0) A2)=QE a b from by
   unfold QE
   simp_all [Ms.setKind,Ms.SL,Ms.TA,Ms.ZL]),T0,h.oS⟩
 refine Ab I (Ah<|Kt<|Y I<|U I (Qe I)<|A I<|CB 22 I (λg=>?_)<|λg=>?_)
 .refine Am I (AP<|Aa<|Ao I<|Aa<|Ao I<|Aa<|Ar<|Kt<|Y I<|N BR I Qb I<|U I lY<|N BR I Qb I<|U I nO<|U I (Yx I I I)<|N BR I Qb I<|AD<|Z I<|AB I I Qb I I I bV<|Bb (Ms.fQ _ _<|IX _)<|Nk<|AP<|Ar<|Kt ?_);refine Y I<|U I (Cq ((b.TA (IntKind.u64.wrap<|b.by'+a.by')<|IX _).c) Ck Bi 0 I (BF _) OM)<|AD<|Z I<|AF I I Bi I I OM RZ uy<|Ce (b.TA (IntKind.u64.wrap<|b.by'+a.by')<|IX _).c (Sep.oR<|by simp only[Kv.oQ,Ms.oQ])<|Nk<|s<|CE I xC ?_
  exact λ_ h=>⟨(),congrArg (λz=>Ending.returned<|Value.agg (Ms.c z).toArray) (show (b.TA (IntKind.u64.wrap<|b.by'+a.by')<|IX _)=QE a b from by
   unfold QE
   simp_all [Ms.setKind,Ms.SL,Ms.TA,Ms.ZL]),T0,h.oS⟩
 refine Ab I (Ah<|Kt<|AP<|Ao I<|Aa<|Ao I<|Aa<|Ao I<|Aa<|Ar<|Kt<|Y I<|U I (Cq b.c Ck Bi 1 I (BF _) OM)<|Z I<|AF I I Bi I I OM RZ uy<|Ce b.c (Sep.oR<|by simp only[Kv.oQ,Ms.oQ])<|Nk<|s<|CE I xC ?_)
 exact λ_ h=>⟨(),congrArg (λz=>Ending.returned<|Value.agg (Ms.c z).toArray) (show b=QE a b from by
  unfold QE
  simp_all [Ms.setKind,Ms.SL,Ms.TA,Ms.ZL]),T0,h.oS⟩
def Iu (v:Kv 16) (t:Bool) (m:Ms):Df prog 159 [.agg v.c.toArray,.bool t,.agg m.c.toArray] Tr [] (λ_:Unit=>.tuple #[.agg (F8 v t m).1.c.toArray,.bool (F8 v t m).2]) Tr (λ_=>[]):=by
 intro w d b;refine E0 func159 I b<|Y I<|Z I<|AT I I I I<|λg=>Ce v.c I<|Z I<|AT I I I I<|λe=>Ce m.c I<|Z I<|Ax I I I zeroValue56<|λf=>Ce (Na 16).c I<|A I<|E<|Y I<|N BR I Z3 I<|Lo G3 1 I<|Nk<|Af<|Y I<|U I (Qe I)<|A I<|CB 10 I (λa=>?_)<|λa=>?_
 .refine Am I (Y I<|N BR I O6 I<|U I (Cq m.val.c Tz O6 1 I (Ms.WU _) Nw)<|Z I<|AF I I O6 I I Nw PU uy<|Ce m.val.c ux<|xK ?_)
  exact λ_ h=>⟨(),congrArg (λz:Kv 16×Bool=>Ending.returned<|Value.tuple #[.agg (Kv.c z.1).toArray,.bool z.2]) (show (m.val,true)=F8 v t m from by
   unfold F8
   simp_all),T0,h.oS⟩
 refine Ab I (Y I<|U I (Qe I)<|A I<|CB 14 I (λy=>?_)<|λy=>?_)
 .refine Am I (E<|Y I<|C 2 I<|Nk<|CB 17 I (λx=>?_)<|λx=>?_)
  .refine Am I (Cr I<|U I Yk<|AQ<|Z I<|AF I I O6 I I Nw PU uy<|Ce (Na 16).c ux<|Nk<|Y I<|U I (Cq ((Na 16).c) Tz O6 0 I (Bq _) Nw)<|N BR I Qb I<|U I nO<|Z I<|E1 (J5 (Na 16) _) I call223 Tt<|λ_ _=>AD<|Z I<|AF I I O6 I I Nw PU uy<|Ce (E5 (Na 16) m.by').c ux<|xK ?_)
   exact λ_ h=>⟨(),congrArg (λz:Kv 16×Bool=>Ending.returned<|Value.tuple #[.agg (Kv.c z.1).toArray,.bool z.2]) (show ((E5 (Na 16) m.by'),true)=F8 v t m from by
    unfold F8
    simp_all),T0,h.oS⟩
  refine Ab I (Ah<|Kt<|Y I<|U I (Cq v.c Tz O6 2 I (Bq _) Nw)<|N BR I Qb I<|U I lY<|Z I<|E1 (J5 v _) I call223 Tt<|λ_ _=>Z I<|AF I I O6 I I Nw PU uy<|Ce (E5 v m.by').c ux<|xK ?_)
  exact λ_ h=>⟨(),congrArg (λz:Kv 16×Bool=>Ending.returned<|Value.tuple #[.agg (Kv.c z.1).toArray,.bool z.2]) (show ((E5 v m.by'),true)=F8 v t m from by
   unfold F8
   simp_all),T0,h.oS⟩
 refine Ab I (Ah<|Au<|Kt<|Y I<|U I Yk<|Z I<|AF I I O6 I I Nw PU uy<|Ce (Na 16).c ux<|A I<|s<|C1 I xH (id I) ?_)
 exact λ_ h=>⟨(),congrArg (λz:Kv 16×Bool=>Ending.returned<|Value.tuple #[.agg (Kv.c z.1).toArray,.bool z.2]) (show ((Na 16),false)=F8 v t m from by
  unfold F8
  simp_all),T0,h.oS⟩
section
variable {n:Nat} {L:Env} {X:aU} {o:Oper}
end
def EC (E:Enc α):Ec w C0 E ([]:List α):=⟨none,0,rfl,qb _,.inl rfl⟩
def Du {E:Enc α} {l:List α} (h:Ec w v E l):∃s:Sv,v=s.v:=by
 obtain⟨a,c,rfl,_⟩:=h; exact⟨⟨a,l.length,c⟩,rfl⟩
def Ec.fB {H:ci} {E:Enc α} {l:List α} (h:Ec w0 v E l) (s:St w0 D H w) (x:blk v∉D\/l=[]):Ec w v E l:=by
 rcases x with x|rfl
 .exact h.keep s x
 obtain⟨a,c,e,y,_⟩:=h; exact⟨a,c,e,y,.inl rfl⟩
def index_spec (l:bf) (x:Int) (m:l.length<=65536):Df prog 157 [va,aa x] (λw=>Ec w va ds l) [] (λ_:Unit=>aa<|io<|B8 (λz=>decide (z=x)) l) Tr (λ_=>[]):=by
 intro w c i;refine E0 func157 I i<|lZ ?_;refine Bm (λ(k:Nat)=>[(0,va),(1,aa x),(7,aa (l.length:Int)),(8,aa (k:Int))]) (λ(k:Nat)=>St w [] []) (λ(k:Nat)=>k<=l.length/\∀z∈l.take k,decide (z=x)=false) (λ(k:Nat)=>l.length-k) (0) ⟨qc _,A3⟩ (Si I) Ih<|λk g=>E ?_
 obtain⟨j,a⟩:=g;refine Cr I<|U I (Ql I)<|Ns<|CB 9 I (λf=>?_)<|λf=>?_
 .obtain⟨y,d⟩:=gE l k;refine Am I<|Ah<|Ks<|Af<|Y I<|r I<|A I<|Y I<|C 3 I<|U I (Aw k I KI Z3 I c.kp I I)<|U I (AO k 0 I G3 I I c.kp d I)<|U I (Qe I)<|Nk<|CB 16 I (λb=>?_)<|λb=>?_
  .exact Am I<|Y I<|r I<|A I<|s<|AA<|Ag<|Ag<|AA<|Ag<|Av I I<|λ_ h=>⟨(),congrArg Ei (by rw[Db d (sT b.symm) a]; rfl),T0,h⟩
  refine Tm ?_;exact AJ (k+1) J ⟨J,Fb a d<|sS<|λe=>b e.symm⟩ (Si I) Jx
 exact Ab I<|AP<|Aa<|Aa<|Ar<|Kt<|Y I<|A I<|s<|Av I I<|λ_ h=>⟨(),congrArg Ei (by rw[pZ J] at a; rw[DG a]; rfl),T0,h⟩
def aX (l:bf) (x:Int) (y:l.length<=65536):Df prog 105 [va,aa x] (λw=>Ec w va ds l) [] (λ_:Unit=>.bool (B8 (λz=>decide (z=x)) l).isSome) Tr (λ_=>[]):=by
 intro w b a;refine E0 func105 I a ?_;exact Y I<|A I<|Y I<|C 2 I<|Z I<|E1 (index_spec l x y) I call157 b.kp<|λ_ _=>U I (Qg I)<|A I<|s<|Av I I<|λ_ h=>⟨(),congrArg Eb RG,T0,h⟩
def Xc4 (y:Wn) (b:Nat) (t:Int):Df prog 256 [.agg y.c.toArray,pV b] Tr [Ac b 3 [aa t]] (λ_:Unit=>.bool<|decide (y.t=t)) Tr (λ_=>[Ac b 3 [aa t]]):=by
 intro w z x;refine enter (n:=8) (vs:=[.agg y.c.toArray,pV b]) (St w [b] [Ac b 3 [aa t]]) func256 I I I aQ ?_;exact Y I<|Z I<|AT I I I I<|λa=>A I<|Y I<|N MB I Z3 I xv
def yu (l:List Wn) (b:Nat) (d:blk va≠b\/l=[]) (t:Int) (o:l.length<=65536):Df prog 255 [va,.func (.func 256) #[] #[pV b]] (λw=>Ec w va Wn.enc l) [Ac b 3 [aa t]] (λ_:Unit=>aa<|io<|B8 (λz=>decide (z.t=t)) l) Tr (λ_=>[Ac b 3 [aa t]]):=by
 intro w c i;refine enter (n:=19) (vs:=[va,.func (.func 256) #[] #[pV b]]) (St w [b] [Ac b 3 [aa t]]) func255 I I I (St.init i) ?_;refine Y I<|A I<|E<|Y I<|r I<|U I (AM I Gm I uN)<|uG ?_;refine Bm (λ(k:Nat)=>[(0,va),(1,.func (.func 256) #[] #[pV b]),(7,aa (l.length:Int)),(8,aa (k:Int))]) (λ(k:Nat)=>St w [b] [Ac b 3 [aa t]]) (λ(k:Nat)=>k<=l.length/\∀z∈l.take k,decide (z.t=t)=false) (λ(k:Nat)=>l.length-k) (0) ⟨qc _,A3⟩ (Si I) Ih<|λk g=>E ?_
 obtain⟨j,x⟩:=g;refine Cr I<|U I (Ql I)<|Ns<|CB 9 I (λf=>?_)<|λf=>?_
 .obtain⟨y,e⟩:=gE l k;refine Am I<|Ah<|Ks<|Af<|Y I<|r I<|A I<|Y I<|C 3 I<|U I (Aw k I Gm FT I uN I I)<|U I (Bc k I PI FT I I uN e)<|Z I<|Hr (β:=Unit) (X':=λ_=>St w _ [Ac b 3 [aa t]]) (v:=λ_=>.bool<|decide (y.t=t)) (p:=λ_=>True) I I I I call256 I ZKW<|λ_ _=>Nk<|CB 16 I (λa=>?_)<|λa=>?_
  .exact Am I<|Y I<|r I<|A I<|s<|AA<|Ag<|Ag<|AA<|Ag<|Av I I<|λ_ h=>⟨(),congrArg Ei (by rw[Db e (sT a) x]; rfl),T0,h⟩
  refine Tm ?_;exact AJ (k+1) J ⟨J,Fb x e<|sS a⟩ (Si I) Jx
 exact Ab I<|AP<|Aa<|Aa<|Ar<|Kt<|Y I<|A I<|s<|Av I I<|λ_ h=>⟨(),congrArg Ei (by rw[pZ J] at x; rw[DG x]; rfl),T0,h⟩
def yS (l:List Wn) (i:Nat) (hi:i<l.length) (g:l.length<=65536):Df prog 284 [v,aa (i:Int),aa<|(i:Int)+1] Tr [AG v 277 Wn.enc l] (λv:d0=>v) Tr (λv=>[AG v 277 Wn.enc<|l.eraseIdx i]):=by
 intro w f a;obtain⟨y,z,cc,rfl⟩:=L5 xQ wK;refine Ey func284 I a<|E<|Pre.fact xI<|λx=>Cr I<|A I<|Y I<|C 4 I<|U I (AM I Gm I ur)<|U I (JX i (i+1) l.length I Gm FT I ur I I I I I I J J J)<|Ns<|Y I<|C 3 I<|Nk<|Sf 16 I J<|Ab I<|Ah<|Kt<|Y I<|r I<|U I (AM I Gm I ur)<|A I<|E ?_
 refine LZ (rg 8) 729 Tr I St.drawn Tt<|Md 2 I<|Dq I (GY i I Gm FT I I I (by have:l.length<=cc:=x; omega))<|Md 2 I<|Dq I (DQ (i+1) I Gm FT I I I J)<|LH 22 (Oy (.slice (some ⟨y,z,none⟩) l.length cc) Wn.enc.sz 0 i) I jf<|LH 25 (Oy (.slice (some ⟨y,z,none⟩) l.length cc) Wn.enc.sz (i+1) l.length) rfl (by by_cases h9:cc=i+1<;>simp[Oy,BT,h9,AI,Wn.enc]) ?_;have b:l.length<=Vr (.slice (some ⟨y,z,none⟩) l.length cc):=x;refine MX I<|JE i I I I Gm Gm FT I I lT (by simp only[pJ,pI]; omega)<|λd e=>Ba (l':=l.eraseIdx i) (by rw[tg,th]) ?_
 have c:(l.eraseIdx i).length=l.length-1:=by rw[List.length_eraseIdx]; simp; omega
 exact Ai Tt<|Sz I<|AN<|Kt<|Y I<|C 2 I<|U I (AM I Gm I ur)<|r I<|U I (ME (l.eraseIdx i).length l.length I Gm FT I ur I I I I J J)<|Z I<|Io I I Gm Xbk I I A2 I J J zO
def XeR (l:ct) (x:l.length<=65536):Df prog 220 [va] (λw=>Ec w va En.enc l) [] (λv:d0=>v) Tr (λv=>[AG v 79 En.enc l]):=by
 intro w z d;obtain⟨a,c,rfl⟩:=FK z;refine E0 func220 I d<|Y I<|A I<|E<|Y I<|r I<|U I (Hq I O8 I I)<|Nk<|Pre.PY 4 I (λx=>?_)<|λx=>?_
 .rw[ti] at x;subst x;have y:=FQ z;subst y;exact Am I<|Y I<|A I<|s<|Ag<|row0 79 En.enc none vI
 refine Ab I (Ah<|Kt<|Y I<|Z I<|As (sz:=26) [] I I I I I O8 Qc I zeroValue79 I<|λb=>Sj En.enc [] I I<|r I<|Z I<|Ap O8 O8 Ep I z.kp xW<|λv=>A I<|s ?_);rw[qU];exact uc
def XeS (l:bf) (x:l.length<=65536):Df prog 107 [va] (λw=>Ec w va ds l) [] (λv:d0=>v) Tr (λv=>[AG v 3 ds l]):=by
 intro w z d;obtain⟨a,c,rfl⟩:=FK z;refine E0 func107 I d<|Y I<|A I<|E<|Y I<|r I<|U I (Hq I KI I I)<|Nk<|Pre.PY 4 I (λx=>?_)<|λx=>?_
 .exact ZBF
 refine Ab I (Ah<|Kt<|Y I<|Z I<|As (sz:=1) [] I I I I I KI Z3 I zeroValue3 I<|λb=>Sj ds [] I I<|r I<|Z I<|Ap KI KI CD I z.kp xW<|λv=>A I<|s ?_);rw[qU];exact uc
def XeT (l:List<|c3) (x:l.length<=65536):Df prog 221 [va] (λw=>Ec w va (Kv.enc 8) l) [] (λv:d0=>v) Tr (λv=>[AG v 77 (Kv.enc 8) l]):=by
 intro w z d;obtain⟨a,c,rfl⟩:=FK z;refine E0 func221 I d<|Y I<|A I<|E<|Y I<|r I<|U I (Hq I CZ I I)<|Nk<|Pre.PY 4 I (λx=>?_)<|λx=>?_
 .rw[ti] at x;subst x;have y:=FQ z;subst y;exact Am I<|Y I<|A I<|s<|Ag<|row0 77 (Kv.enc 8) none<|Av I I jU
 refine Ab I (Ah<|Kt<|Y I<|Z I<|As (sz:=9) [] I I I I I CZ MW I zeroValue77 I<|λb=>Sj (Kv.enc 8) [] I I<|r I<|Z I<|Ap CZ CZ KL I z.kp (by simp only[pK,pz,sR]; omega)<|λv=>A I<|s ?_);rw[qU];exact uc
def RK (l:cp) (x:l.length<=65536):Df prog 222 [va] (λw=>Ec w va Ms.enc l) [] (λv:d0=>v) Tr (λv=>[AG v 154 Ms.enc l]):=by
 intro w z d;obtain⟨a,c,rfl⟩:=FK z;refine E0 func222 I d<|Y I<|A I<|E<|Y I<|r I<|U I (Hq I BH I I)<|Nk<|Pre.PY 4 I (λx=>?_)<|λx=>?_
 .rw[ti] at x;subst x;have y:=FQ z;subst y;exact Am I<|Y I<|A I<|s<|Ag<|row0 154 Ms.enc none vI
 refine Ab I (Ah<|Kt<|Y I<|Z I<|As (sz:=29) [] I I I I I BH Bi I zeroValue154 I<|λb=>Sj Ms.enc [] I I<|r I<|Z I<|Ap BH BH DL I z.kp xW<|λv=>A I<|s ?_);rw[qU];exact uc
def ZA (x:Int):Df prog 241 [aa x] Tr [] (λ_:Unit=>.bool<|Ry x) Tr (λ_=>[]):=by
 intro w a z;refine E0 func241 I z<|Y I<|A I<|Y I<|C 3 I<|CB 5 I (λy=>?_)<|λy=>?_
 .exact C 3 I<|A I<|s<|Av I I<|λ_ h=>⟨(),congrArg Eb (by unfold Ry; rw[sT y]; rfl),T0,h⟩
 exact C 3 I<|A I<|s<|Av I I<|λ_ h=>⟨(),congrArg Eb (by unfold Ry; rw[sS J]; rfl),T0,h⟩
def KQ (x:Int):Df prog 190 [aa x] Tr [] (λ_:Unit=>.bool<|OJ x) Tr (λ_=>[]):=by
 intro w a z;refine E0 func190 I z<|Y I<|A I<|Y I<|C 3 I<|CB 5 I (λy=>?_)<|λy=>?_
 .exact C 3 I<|A I<|s<|Av I I<|λ_ h=>⟨(),congrArg Eb (by unfold OJ; rw[sT y]; rfl),T0,h⟩
 exact C 3 I<|A I<|s<|Av I I<|λ_ h=>⟨(),congrArg Eb (by unfold OJ; rw[sS J]; rfl),T0,h⟩
def Cu (o:Option α) (x:o=none->Q) (h:∀i,o=some i->Q):Q:=by cases o with
 |none=>exact x rfl
 |some i=>exact h i rfl
def OC {P:d8} {n:Nat} {L:Env} {X:aU} {o:Oper} {Q:aB} {K:aO} {d:Nat} (hd:o.dst=some d) (y:d.blt n) (z:MV P n L X o v) (h:Pre n ((d,v)::L) X K):Nl P n L X o Q K :=
 Nl.val (β:=Unit) (λ_=>v) Tr (λ_=>X) hd y (λa w k x=>⟨(),w,z a w k x,T0,x⟩) Xk
abbrev R:=@OC
abbrev kI:Int->d0:=Value.int .i64
abbrev vS (q:Sv×bf):d0:=q.1.v
def LY:JZ prog 3 kI:=XfQ .i64 U3
def wn (q:Int×Int):Wn:=⟨q.1,q.2,decide (q.2 = -1)⟩
structure CS where
 vF:d0
 fl:cO
 bA:Nat
 at':List (Int×Int)
 bL:Nat
 ld:List (Int×(Sv×bf))
 vL:d0
 ln:List Wn
 hand:Int
namespace CS
def cells (S:CS):bi:=[S.vF,.map<|some S.bA,.map<|some S.bL,S.vL,aa S.hand]
def rows (S:CS):ci:=S.ld.map<|λq=>AG q.2.1.v 3 ds q.2.2
def H (bc:Nat) (S:CS):ci:=[Ac bc 257 S.cells,AG S.vF 259 FC.enc S.fl,D1 S.bA kI kI S.at',D1 S.bL kI vS S.ld,AG S.vL 277 Wn.enc S.ln]++S.rows
end CS
structure CR (w:d7) (bc:Nat) (S:CS):Prop where
 c:(Ac bc 257 S.cells).at w
 f:Ec w S.vF FC.enc S.fl
 a:(D1 S.bA kI kI S.at').at w
 m:(D1 S.bL kI vS S.ld).at w
 l:Ec w S.vL Wn.enc S.ln
 r:∀q∈S.ld,Ec w q.2.1.v ds q.2.2
def CR.of {S:CS} {F:ci} (h:St w0 D (S.H bc++F) w):CR w bc S :=
 ⟨h.at 0 rfl,h.rd 1 rfl,h.at 2 rfl,h.at 3 rfl,h.rd 4 rfl,λq x=>BA<|h.hp.holds _<|qh _<|sw _<|qj.2 ⟨q,x,rfl⟩⟩
def CR.keep {S:CS} {H:ci} (h:CR w0 bc S) (s:St w0 [] H w):CR w bc S :=
 ⟨RA h.c s A3,h.f.keep s A3,Xax h.a s A3,Xax h.m s A3,h.l.keep s A3,λq x=>(h.r q x).keep s A3⟩
structure Rel (S:CS) (M:Mo):Prop where
 fr:S.fl.map vw=M.fr
 ln:S.ln=M.line.map wn
 hd:S.hand=M.hand
 at':∀b,Cw b S.at'=Option.map (λi:Nat=>(i:Int)) (M.find b)
 ld:∀b,M.told b=match Cw b S.ld with|some q=>q.2|none=>[]
 nd:(S.ld.map Prod.fst).Nodup
 na:(S.at'.map Prod.fst).Nodup
def Rel.len {S:CS} (h:Rel S M):S.fl.length=M.fr.length:=by rw[<-h.fr,qY]
def Rel.ak {S:CS} (h:Rel S M):S.ln.length=M.line.length:=by rw[h.ln,qY]
def Rel.get {S:CS} (h:Rel S M) {i:Nat} {y:Vw} (x:M.fr[i]?=some y):∃f,S.fl[i]?=some f/\vw f=y:=by
 rw[<-h.fr,qq,rv] at x; exact x
def Rel.XU {S:CS} (h:Rel S M) {i:Nat} {f:FC} (x:S.fl[i]?=some f):M.fr[i]?=some (vw f):=by rw[<-h.fr,qq,x]; rfl
def Ls (h:M.fr[i]?=some y):M.at' i=y:=by unfold Mo.at'; rw[sY,h]; rfl
def Fq (h:M.find b=some i):∃y,M.fr[i]?=some y/\y.blk=b/\(y.st=1\/y.st=2)/\M.at' i=y:=by
 obtain⟨y,z,x,_⟩:=Dd h;simp only[Oq,qW,Bool.or_eq_true,rA] at x;exact⟨y,z,x.1,x.2,Ls z⟩
def JH {st:Int} (h:M.Me b st=some i):M.find b=some i/\(M.at' i).st=st:=by
 unfold Mo.Me at h;split at h
 .rename_i j hj;split at h
  .rename_i hs; cases h; exact⟨hj,hs⟩
  cases h
 cases h
abbrev fp (v:d0) (i:Nat):d0:=.pointer<|some ⟨blk v,Gl v+i*11,none⟩
def fpo (v:d0):Option Nat->d0
 |some i=>fp v i
 |none=>av
def n7 (q:Int×Int):(wn q).t=q.1:=rfl
def Xg2 {S:CS} (h:Rel S M) (t:Int):B8 (λz:Wn=>decide (z.t=t)) S.ln=M.stand t:=by
 rw[h.ln]; unfold Mo.stand; rw[XaT]; rfl
def Iv (h:M.stand t=some i):∃q,M.line[i]?=some q/\q.1=t:=by
 obtain⟨q,x,y,_⟩:=Dd h; exact⟨q,x,sW y⟩
def MN [DecidableEq α] {a:α} {y:β}:∀{l:List<|α×β},Cw a l=some y->(a,y)∈l
 |[],h=>wU
 |(x,z)::l,h=>by
  simp only[Cw] at h
  split at h
  .rename_i e; cases h; subst e; exact rW ..
  .exact sr _<|MN h
def MO [DecidableEq α] {a:α} {y:β}:∀{l:List<|α×β},(l.map Prod.fst).Nodup->(a,y)∈l->Cw a l=some y
 |[],_,h=>wU
 |(x,z)::l,hn,h=>by
  obtain⟨c,d⟩:=ss.1 hn
  simp only[Cw]
  rcases pj.1 h with b|b
  .cases b; rw[pN rfl]
  .rw[pQ<|λe=>c<|by subst e; exact qj.2 ⟨_,b,rfl⟩]; exact MO d b
def G7 (a:Int) (v:β):∀{l:List<|Int×β},(l.map Prod.fst).Nodup->((C4 a v l).map Prod.fst).Nodup
 |[],_=>by simp[C4]
 |(x,y)::l,h=>by
  obtain⟨b,c⟩:=ss.1 h
  simp only[C4]
  split
  .rename_i e; subst e; exact ss.2 ⟨b,c⟩
  .rename_i e
   refine ss.2 ⟨λhm=>?_,G7 a v c⟩
   have:∀{l:List<|Int×β},x∈(C4 a v l).map Prod.fst->x=a\/x∈l.map Prod.fst:=by
    intro l
    induction l with
    |nil=>intro h; simp[C4] at h; exact .inl h
    |cons p l ih =>
     intro h;simp only[C4] at h;split at h
     .rename_i e2;rcases pj.1 h with h|h
      .exact .inl h
      exact .inr<|sr _ h
     rcases pj.1 h with h|h
     .exact .inr<|by rw[h]; exact rW ..
     rcases ih h with h|h
     .exact .inl h
     exact .inr<|sr _ h
   rcases this hm with z|z
   .exact e z.symm
   exact b z
def Xay {S:CS} (h:Rel S M) (t:Int):M.waits t=true↔∃q∈S.ld,t∈q.2.2:=by
 constructor
 .intro c;obtain⟨q,y,z⟩:=rR.1 c;have x:t∈M.told q.2:=qj.2 ⟨q,tc.2 ⟨y,A3⟩,sW z⟩;rw[h.ld] at x;cases hm:Cw q.2 S.ld with
  |none=>rw[hm] at x; cases x
  |some r=>rw[hm] at x; exact⟨_,MN hm,x⟩
 rintro⟨q,y,x⟩;have hm:Cw q.1 S.ld=some q.2:=MO h.nd (by obtain⟨a,b⟩:=q; exact y);have:=h.ld q.1;rw[hm] at this;have x:t∈M.told q.1:=by rw[this]; exact x
 obtain⟨p,d,e⟩:=qj.1 x;exact rR.2 ⟨p,(tc.1 d).1,sT e⟩
def Fc {S:CS} (y:Rel S M) (e:M.Ok B) (b:Int):Df prog 194 [pV bc,aa b] (λw=>CR w bc S) [] (λ_:Unit=>aa<|io<|M.find b) Tr (λ_=>[]):=by
 intro w z d;refine E0 func194 I d<|Y I<|A I<|Y I<|C 2 I<|N Dj I ZW I<|U I (Aj I isAgg89 I (λ_ h=>(CR.keep z h).c) I)<|r I<|U I (ML (kf:=kI) (vf:=kI) b I ZU LY zeroValue3 I I<|λ_ h=>(CR.keep z h).a)<|C 4 I<|A I<|E<|E<|Cu (M.find b) (λx=>?_)<|λi x=>?_
 .have hm:=y.at' b;rw[x,Option.map_none] at hm;exact LH 6 (.bool false) I (by rw[hm]; rfl)<|Cr I<|C 2 I<|Nk<|Am I<|Y I<|A I<|s<|Ag ZGz
 have hm:=y.at' b;rw[x,qv] at hm;exact LH 6 (.bool true) I (by rw[hm]; rfl)<|LH 5 (aa (i:Int)) I Yq<|Cr I<|C 2 I<|Nk<|Ab I<|Ah<|Kt<|Y I<|r I<|A I<|s ZGz
def mr {E:Enc α} {l:List α} {b:Nat} {φ:Option Obj->Prop} {H:ci} (h:Ec w0 v E l) (s:St w0 [] (⟨some b,φ⟩::H) w):blk v≠b\/l=[]:=by
 by_cases hl:l=[]
 .exact .inr hl
 refine .inl (λe=>?_);have y:=h.lt hl;have x:b∈([]:bm)\/w0.heap.size<=b:=s.dom b<|rW ..;rcases x with x|x
 .cases x
 omega
section
variable {n:Nat} {L:Env} {X:aU} {o:Oper}
def zx:cB:=[.i .i64,.i .i64,.b]
def i64 (z:Int):Prop:=(Lit.int .i64 z).wf=true
def MP {z:Int} (x : -60000<=z) (h:z<=60000):i64 z:=by
 unfold i64;exact ZB5
def Wn.kinds {w:Wn} (z:i64 w.t) (y:i64 w.b):Kinds zx w.c:=by
 refine⟨rfl,λj k v h x=>?_⟩
 match j with
 |0=>cases h; cases x; exact⟨_,rfl,z⟩
 |1=>cases h; cases x; exact⟨_,rfl,y⟩
 |2=>cases h; cases x; exact⟨_,rfl⟩
 |j+3=>simp[zx] at h
def Wn.XH {a b:Wn}:a.c=b.c↔a=b:=by
 refine⟨λh=>?_,λh=>by rw[h]⟩;simp only[Wn.c,List.cons.injEq,Value.int.injEq,Value.bool.injEq,true_and,and_true] at h;exact Wn.ext' h.1 h.2.1 h.2.2
def mv {y:d5} (k j:Wn) (h:i64 k.t/\i64 k.b) (hj:i64 j.t/\i64 j.b) (a:o.op=.binOp .eql 277 x y u) (z:ev L x=some (.agg k.c.toArray)) (e:ev L y=some (.agg j.c.toArray)):MV prog n L X o (.bool<|decide (k=j)) :=
 PR (d:=3) (ks:=zx) _ A6 A6 A2 A6 A6 A6 a z e (Wn.kinds h.1 h.2) (Wn.kinds hj.1 hj.2)<|by rw[Wn.XH,rA]
end
def mw {p:Int×Int}:decide (wn p=wn q)=decide (p=q):=by
 rw[te];refine⟨λh=>?_,λh=>by rw[h]⟩;have y:=congrArg Wn.t h;have x:=congrArg Wn.b h;exact Prod.ext y x
def my {S:CS} (h:m.toList.map (λe=>(e.key,e.val))=S.ld.map (λp=>(kI p.1,vS p.2))) {e:MapEntry} (y:e∈m.toList):∃(i:Nat) (q:Int×(Sv×bf)),m[i]?=some e/\S.ld[i]?=some q/\e.val=q.2.1.v:=by
 obtain⟨i,hi⟩:=tj.1 y;have x:(m.toList.map<|λe=>(e.key,e.val))[i]?=some (e.key,e.val):=by rw[qq,hi]; rfl
 rw[h,qq,rv] at x;obtain⟨q,z,a⟩:=x;exact⟨i,q,jX,z,(congrArg Prod.snd a).symm⟩
def mz {S:CS} (h:m.toList.map (λe=>(e.key,e.val))=S.ld.map (λp=>(kI p.1,vS p.2))) {q:Int×(Sv×bf)} (x:q∈S.ld):∃(i:Nat) (e:MapEntry),S.ld[i]?=some q/\m[i]?=some e/\e∈m.toList:=by
 obtain⟨i,hi⟩:=tj.1 x;have y:=congrArg List.length h;simp only[qY,rF] at y;have z:=(qp.1 hi).1;exact⟨i,m[i],hi,s8 J,A3⟩
def Xg3 (z:(m.toList.map (·.born)).Nodup) {i j:Nat} {e f:MapEntry} (x:m[i]?=some e) (y:m[j]?=some f) (h:e.born=f.born):i=j:=by
 have hi:=(pY.1 x).1;have hj:=(pY.1 y).1;refine (List.getElem_inj (h₀:=jX) (h₁:=by simpa using hj) z).1 ?_;have b:=(pY.1 x).2;have a:=(pY.1 y).2;simp[b,a,h]
def MQ {l:bf}:(B8 (λz=>decide (z=t)) l).isSome=true↔t∈l:=by
 constructor
 .intro h;obtain⟨k,x⟩:=Option.isSome_iff_exists.1 h;obtain⟨y,b,a,_⟩:=Dd x;have:=sW a;subst this; exact ry b
 intro h;cases hf:B8 (λz=>decide (z=t)) l with
 |some _=>rfl
 |none=>have:=Fp hf t h; simp at this
def F9 {S:CS} (m:Rel S M) (o:M.Ok B) (b l:Int):Df prog 165 [pV bc,aa b,aa l] (λw=>CR w bc S) [] (λ_:Unit=>fpo S.vF<|M.Me b l) Tr (λ_=>[]):=by
 intro w a p;refine E0 func165 I p<|Y I<|A I<|Y I<|C 2 I<|Z I<|E1 (Fc m o b) I call194 (λ_ h=>CR.keep a h)<|λ_ _=>A I<|E<|E<|Cu (M.find b) (λx=>?_)<|λi x=>?_
 .exact LH 7 (aa (-1)) I (by rw[x]; rfl)<|Cr I<|C 3 I<|Sb 13 true I (I)<|C 11 I<|Nk<|Am I<|Y I<|A I<|Al<|Ag<|Av I I<|λ_ h=>⟨(),congrArg (λz=>Ending.returned z) (by unfold Mo.Me; rw[x]; rfl),T0,h.oS⟩
 obtain⟨y,r,q,n,g⟩:=Fq x;obtain⟨f,d,k⟩:=m.get r;have s:=(qp.1 d).1;have e:(M.at' i).st=f.st:=by rw[g,<-k]; rfl
 refine LH 7 (aa (i:Int)) I (by rw[x]; rfl)<|Cr I<|C 3 I<|Sf 13 I J<|C 2 I<|N Dj I F4 I<|U I (Aj I GO I (λ_ h=>(CR.keep a h).c) I)<|Lm I<|U I (Aw i I Fx Er I a.f.kp I I)<|N Ej I Z3 I<|U I (AO i 0 I G3 I I a.f.kp d I)<|C 3 I<|Nk<|CB 24 I (λj=>?_)<|λj=>?_
 .exact Am I<|Y I<|A I<|Al<|Ag<|Av I I<|λ_ h=>⟨(),congrArg (λz=>Ending.returned z) (by unfold Mo.Me; rw[x]; simp only; rw[pQ<|by rw[e]; exact j]; rfl),T0,h.oS⟩
 exact Ab I<|Ah<|Kt<|Y I<|C 2 I<|N Dj I F4 I<|U I (Aj I GO I (λ_ h=>(CR.keep a h).c) I)<|Lm I<|U I (Aw i I Fx Er I a.f.kp I I)<|A I<|Al<|Av I I<|λ_ h=>⟨(),congrArg (λz=>Ending.returned z) (by unfold Mo.Me; rw[x]; simp only; rw[pN<|by rw[e]; exact j]; rfl),T0,h.oS⟩
def Gw {S:CS} (z:Rel S M) (b:M.Ok B) (t:Int):Df prog 192 [pV bc,aa t] (λw=>CR w bc S) [] (λ_:Unit=>aa<|io<|M.stand t) Tr (λ_=>[]):=by
 intro w y f;refine E0 func192 I f ?_;exact Y I<|Z I<|AT I I I I<|λd=>Ce [aa t] I<|A I<|Y I<|C 2 I<|N Dj I KK I<|U I kC<|U I (BU (fn:=.func 0) (us:=#[pV d]) 256 I (vs:=#[]) Vu mg)<|Pre.fact (λ_ h=>mr y.l h)<|λe=>Z I<|Bp (yu S.ln d e t (by have:=z.ak; have:=b.lB; have:=b.B9; omega)) I I I call255 I (λ_ h=>(CR.keep y h).l)<|λ_ _=>A I<|s<|Av I I<|λ_ h=>⟨(),congrArg Ei (by rw[Xg2 z]),T0,h.oS⟩
def bC {S:CS} (k:Rel S M) (E:M.Ok B) (t:Int):Df prog 191 [pV bc,aa t] (λw=>CR w bc S) [] (λ_:Unit=>.bool<|M.waits t) Tr (λ_=>[]):=by
 intro w u H;refine E0 func191 I H<|Y I<|Ak I<|Ad<|Y I<|Mv 2 I<|EJ Dj I Wu I<|U I (Aj I isAgg254 I (λ_ h=>(CR.keep u h).c) I) ?_;obtain⟨m,c,hm,j,n⟩:=J1 u.m;have C:WH S.bL m c w:=hm;refine Z I<|Xiz I I I TC I (λ_ h=>KM C h A3)<|λr=>Nk<|Af ?_
 refine Bm (λ(x:Array Nat)=>[(1,aa t),(11,pV r)]) (λ(x:Array Nat)=>St w [] [X0 r S.bL c x]) (λ(x:Array Nat)=>∀(i:Nat) (e:MapEntry) (q:Int×(Sv×bf)),m[i]?=some e->S.ld[i]?=some q->x.contains e.born=true->t∉q.2.2) (λ(x:Array Nat)=>Vb m x) (#[]) (λi e q a z y=>by simp at y) (Si I) Ih<|λx F=>Y I<|Z I ?_
 refine Xj5 I I I I n.1 (λ_ h=>KM C h A3) (λL=>?_)<|λe G=>?_
 .refine U I (Qx I) (Ns<|Ab I<|AP<|Aa<|Aa<|Ar<|Kt<|Y I<|Ak I<|Al<|Ae ?_);have p:=XfS L;refine Av I I ?_
  exact λ_ h=>⟨(),congrArg Eb<|(by
   rw[rM] ;intro K;obtain⟨q,d,l⟩:=(Xay k t).1 K;obtain⟨i,e,a,z,y⟩:=mz j d
   exact F i e q z a (p e y) l:M.waits t=false).symm,T0,h.oS⟩
 obtain⟨g,P⟩:=Xa8 G;obtain⟨i,q,s,b,f⟩:=my j g;have d:=ry b;refine U I (Qx I)<|Ns<|Am I<|Ah<|Kt<|Af<|Y I<|U I (XiA I I n.2 g (λ_ h=>KM C h A3) uP)<|U I (Qx I)<|Ak I<|Ad<|LH 6 q.2.1.v I (f)<|Cr I<|Mv 2 I ?_;have D:Cw q.1 S.ld=some q.2:=MO k.nd d
 have o:q.2.2.length<=65536:=by
  have a:=k.ld q.1;rw[D] at a;have z:q.2.2=M.told q.1:=a.symm;rw[z]; unfold Mo.told;rw[qY];exact qM (tm _ _) (by have:=E.ll; have:=E.B9; omega)
 refine Z I<|E1 (aX q.2.2 t o) I call105 (λ_ h=>(u.r q d).keep h A3)<|λ_ _=>Nk<|Pre.PY 18 I (λA=>?_)<|λA=>?_
 .exact Am I<|Y I<|Ak I<|Al<|AA<|Ag<|AA<|Ag<|Av I I<|λ_ h=>⟨(),congrArg Eb<|((Xay k t).2 ⟨q,d,MQ.1 A⟩).symm,T0,h.oS⟩
 refine Ab I (Ah<|Au ?_)
 exact AJ (x.push e.born) (XfR G) (λJ e' N a z y l=>by
  rw[Array.contains_push,Bool.or_eq_true] at y;rcases y.symm with y|y
  .have O:e'.born=e.born:=by first|exact (rS.1 y).symm|exact rS.1 y
   have:=Xg3 n.2 a s O;subst this;rw[b] at z; cases z
   have:=MQ.2 l;rw[A] at this; cases this
  exact F J e' N a z y l) (Si I) Jx
def MR (l:List α) (x:l=[]->Q) (h:∀q r,l=q::r->Q):Q:=by cases l with
 |nil=>exact x rfl
 |cons q r=>exact h q r rfl
def Lu {p:α->Bool} {l:List α} {x:α} (h:l[i]?=some x):(l.take<|i+1).countP p=(l.take i).countP p+(if p x=true then 1 else 0):=by
 rw[sH,h,List.countP_append]; simp[List.countP_cons]
def cls (M:Mo) (t:Int) (i:Nat):bm:=(List.range i).filter<|λj=>isC t<|M.at' j
def MS (M:Mo) (t:Int) (i:Nat):cls M t (i+1)=if isC t (M.at' i)=true then cls M t i++[i] else cls M t i:=by
 unfold cls; rw[tp,tq];cases h:isC t (M.at' i)<;>simp[h]
def P1 (M:Mo) (t:Int) (i:Nat):(cls M t i).length<=i:=by
 have:=tm (λj=>isC t<|M.at' j)<|List.range i;rw[tr] at this; exact this
def Xaz (M:Mo) (t:Int):∀i,i<=M.fr.length->(cls M t i).length=(M.fr.take i).countP (isC t)
 |0,_=>rfl
 |i+1,h=>by
  obtain⟨y,x⟩:=gE M.fr i
  rw[MS,Lu x,Ls x,<-Xaz M t i J]
  split<;>simp
def Vi (M:Mo) (t:Int):(cls M t M.fr.length).length=M.claims t:=by
 rw[Xaz M t _<|qb _,tg]; rfl
def ON (v:d0):Enc Nat:=⟨1,λi=>[fp v i],λ_=>rfl,λa u h=>by simp at h; subst h; rfl,by decide⟩
def Xka (t:Int) (f:FC):isC t (vw f)=(decide (f.st=3)&&decide (f.own=t)):=by
 unfold isC vw;by_cases h:f.st=3<;>simp[h]
def Xg4 (y:OJ t) (x:M.waits t=false) (h:M.stand t=none):M.may t=true:=by unfold Mo.may; rw[y,x,h]; rfl
def Xg5 (y:OJ t) (a:M.waits t=false) (h:M.stand t=some k) (x:M.line[k]?=some q):M.may t=((decide (k=0)&&decide (0<M.free))||(M.find q.2).isSome):=by
 have z:M.line.getD k (0,-1)=q:=by rw[sY,x]; rfl
 unfold Mo.may;rw[y,a,h];show (true&&!false&&(decide (k=0)&&decide (0<M.free)||(M.find (M.line.getD k (0,-1)).2).isSome))=_
 rw[z];simp
def fF {S:CS} (m:Rel S M) (e:M.Ok B) (t b:Int) (j:i64 b):Df prog 242 [pV bc,.agg (wn (t,b)).c.toArray] (λw=>CR w bc S) [] (λ_:Unit=>.bool<|M.SY t b) Tr (λ_=>[]):=by
 intro w z r;refine E0 func242 I r<|Y I<|Z I<|AT I I I I<|λp=>Ce (wn (t,b)).c I<|A I<|Y I<|Lm I<|N MB I Z3 I<|Lo G3 0 I<|Z I<|E1 (Gw m e t) I call192 (λ_ h=>CR.keep z h)<|λ_ _=>A I<|E<|Cu (M.stand t) (λd=>?_)<|λi d=>?_
 .refine LH 5 (aa (-1)) I (by rw[d]; rfl) (LZ (rg 26) 2196 (λg=>CR g bc S/\(Ac p 277 (wn (t,b)).c).at g) I St.drawn (λ_ h=>⟨CR.keep z h,h.at 0 rfl⟩)<|Ht MB I Z3 I<|Dq I (Aj I G3 I uS I)<|MX I<|E1 (KQ t) I call190 Tt<|λ_ _=>Ai (λ_ h=>⟨CR.keep z h,h.at 0 rfl⟩)<|Dm I<|Pre.PY 13 I (λx=>?_)<|λx=>?_)
  .have o:0<=t/\t<8:=by unfold OJ at x; simpa using x
   have y:i64 t:=MP J J;refine Dm I<|Ht MB I Z3 I<|Dq I (Aj I G3 I uS I)<|MX I<|E1 (bC m e t) I call191 (λ_ h=>CR.keep z h)<|λ_ _=>Ai (λ_ h=>⟨CR.keep z h,h.at 0 rfl⟩)<|Md 3 I<|CB 20 I (λa=>?_)<|λa=>?_
   .exact Md 3 I<|Sb 23 true I (I)<|Md 12 I<|AN<|Kt<|Al<|Av I I<|λ_ h=>⟨(),congrArg Eb (by unfold Mo.SY; rw[x,a,d]; rfl),T0,h.oS⟩
   exact ZAs
  exact ZAF
 obtain⟨q,k,n⟩:=Iv d;have f:S.ln[i]?=some (wn q):=by rw[m.ln,qq,k]; rfl
 have s:=(qp.1 f).1;refine LH 5 (aa (i:Int)) I (by rw[d]; rfl)<|LZ (rg 26) 2196 (λg=>CR g bc S/\(Ac p 277 (wn (t,b)).c).at g) I St.drawn (λ_ h=>⟨CR.keep z h,h.at 0 rfl⟩)<|Ht MB I Z3 I<|Dq I (Aj I G3 I uS I)<|MX I<|E1 (KQ t) I call190 Tt<|λ_ _=>Ai (λ_ h=>⟨CR.keep z h,h.at 0 rfl⟩)<|Dm I<|Pre.PY 13 I (λx=>?_)<|λx=>?_
 .have o:0<=t/\t<8:=by unfold OJ at x; simpa using x
  have y:i64 t:=MP J J;refine Dm I<|Ht MB I Z3 I<|Dq I (Aj I G3 I uS I)<|MX I<|E1 (bC m e t) I call191 (λ_ h=>CR.keep z h)<|λ_ _=>Ai (λ_ h=>⟨CR.keep z h,h.at 0 rfl⟩)<|Md 3 I<|CB 20 I (λa=>?_)<|λa=>?_
  .exact Md 3 I<|Sf 23 I J<|Md 2 I<|Ht Dj I KK I<|Dq I (Aj I PJ I (λ_ h=>(h.1).c) I)<|Dm I<|Dq I (Aw i I Gm FT I (λ_ h=>(h.1).l) I I)<|Dq I (Bc i I PI FT I I (λ_ h=>(h.1).l) f)<|Dq I (AH ((wn (t,b)).c) I PI FT I uS (I)<|I)<|Dq I (mv (wn q) (wn (t,b)) ⟨by rw[n7,n]; exact y,MP (by have:=e.lb q<|ry k; show -60000<=q.2; omega) (by have:=e.lb q<|ry k; show q.2<=60000; omega)⟩ ⟨y,j⟩ I I I)<|Md 3 I<|AN<|Kt<|Al<|Av I I<|λ_ h=>⟨(),congrArg Eb (by rw[mw]; unfold Mo.SY; rw[x,a,d]; show _=(true&&!false&&decide (M.line[i]?=some (t,b))); rw[k]; simp),T0,h.oS⟩
  exact ZAs
 exact ZAF
def free_spec {S:CS} (g:Rel S M) (v:M.Ok B) (t:Int):Df prog 244 [pV bc,aa t] (λw=>CR w bc S) [] (λ_:Unit=>fpo S.vF<|M.takes t) Tr (λ_=>[]):=by
 intro w y A;refine E0 func244 I A<|Y I<|Ak I<|E<|Y I<|Mv 2 I<|N Dj I KK I<|U I kC<|U I (AM I Gm I y.l.kp)<|U I vd<|Lm I<|MR M.line (λj=>?_)<|λq r j=>?_
 .have D:S.ln.length=0:=by rw[g.ak,j]; rfl
  have m:M.turn t=true:=by unfold Mo.turn; rw[j]
  refine Sf 12 I J<|Mv 10 I<|Nk<|ZCi ?_;refine Bm (λ(i:Nat)=>[(0,pV bc),(1,aa t),(27,aa (S.fl.length:Int)),(28,aa (i:Int))]) (λ(i:Nat)=>St w [] []) (λ(i:Nat)=>i<=S.fl.length/\∀z∈M.fr.take i,XJ z=false) (λ(i:Nat)=>S.fl.length-i) (0) ⟨qc _,A3⟩ (Si I) Ih<|λi o=>E ?_
  obtain⟨hi,x⟩:=o;have u:=g.len;have s:=v.n64;refine Cr I<|U I (Ql I)<|Ns<|CB 29 I (λp=>?_)<|λp=>?_
  .obtain⟨f,a⟩:=gE S.fl i;have n:=g.XU a;refine Am I<|Ah<|Ks<|Af<|Y I<|Lm I<|Ak I<|Y I<|Mv 2 I<|N Dj I F4 I<|U I (Aj I GO I yk I)<|Lm I<|U I (Aw i I Fx Er I y.f.kp I I)<|N Ej I Z3 I<|U I (AO i 0 I G3 I I y.f.kp a I)<|U I (Qe I)<|Nk<|CB 39 I (λb=>?_)<|λb=>?_
   .exact Am I<|Y I<|Mv 2 I<|N Dj I F4 I<|U I (Aj I GO I yk I)<|Lm I<|U I (Aw i I Fx Er I y.f.kp I I)<|Ak I<|Al<|AA<|Ag<|Ag<|AA<|Ag<|Av I I<|λ_ h=>⟨(),congrArg (λz=>Ending.returned z) (by unfold Mo.takes; rw[pN m]; unfold Mo.ZE; rw[Db n (sT b) x]; rfl),T0,h.oS⟩
   refine Tm ?_;exact AJ (i+1) J ⟨J,Fb x n<|sS b⟩ (Si I) Jx
  exact Ab I<|AP<|Aa<|Aa<|Ar<|Kt<|Y I<|Ak I<|Al<|Av I I<|λ_ h=>⟨(),congrArg (λz=>Ending.returned z) (by unfold Mo.takes; rw[pN m]; unfold Mo.ZE; rw[pZ J] at x; rw[DG x]; rfl),T0,h.oS⟩
 have k:S.ln[0]?=some (wn q):=by rw[g.ln,j]; rfl
 have C:=(qp.1 k).1;refine Yf 12 I J<|Mv 2 I<|N Dj I KK I<|U I kC<|U I (Aw 0 I Gm FT I y.l.kp I I)<|N MB I Z3 I<|U I (AO 0 0 I G3 I I y.l.kp k I)<|Mv 3 I<|Nk<|CB 22 I (λd=>?_)<|λd=>?_
 .exact Am I<|Y I<|Ak I<|Al<|Ag<|Av I I<|λ_ h=>⟨(),congrArg (λz=>Ending.returned z) (by unfold Mo.takes Mo.turn; rw[j]; simp only; rw[pQ<|show ¬decide (q.1=t)=true from λe=>d<|sW e]; rfl),T0,h.oS⟩
 have m:M.turn t=true:=by unfold Mo.turn; rw[j]; exact sT d
 refine ZCi ?_;refine Bm (λ(i:Nat)=>[(0,pV bc),(1,aa t),(27,aa (S.fl.length:Int)),(28,aa (i:Int))]) (λ(i:Nat)=>St w [] []) (λ(i:Nat)=>i<=S.fl.length/\∀z∈M.fr.take i,XJ z=false) (λ(i:Nat)=>S.fl.length-i) (0) ⟨qc _,A3⟩ (Si I) Ih<|λi o=>E ?_
 obtain⟨hi,x⟩:=o;have u:=g.len;have s:=v.n64;refine Cr I<|U I (Ql I)<|Ns<|CB 29 I (λp=>?_)<|λp=>?_
 .obtain⟨f,a⟩:=gE S.fl i;have n:=g.XU a;refine Am I<|Ah<|Ks<|Af<|Y I<|Lm I<|Ak I<|Y I<|Mv 2 I<|N Dj I F4 I<|U I (Aj I GO I yk I)<|Lm I<|U I (Aw i I Fx Er I y.f.kp I I)<|N Ej I Z3 I<|U I (AO i 0 I G3 I I y.f.kp a I)<|U I (Qe I)<|Nk<|CB 39 I (λb=>?_)<|λb=>?_
  .exact Am I<|Y I<|Mv 2 I<|N Dj I F4 I<|U I (Aj I GO I yk I)<|Lm I<|U I (Aw i I Fx Er I y.f.kp I I)<|Ak I<|Al<|AA<|Ag<|Ag<|AA<|Ag<|Av I I<|λ_ h=>⟨(),congrArg (λz=>Ending.returned z) (by unfold Mo.takes; rw[pN m]; unfold Mo.ZE; rw[Db n (sT b) x]; rfl),T0,h.oS⟩
  refine Tm ?_;exact AJ (i+1) J ⟨J,Fb x n<|sS b⟩ (Si I) Jx
 exact Ab I<|AP<|Aa<|Aa<|Ar<|Kt<|Y I<|Ak I<|Al<|Av I I<|λ_ h=>⟨(),congrArg (λz=>Ending.returned z) (by unfold Mo.takes; rw[pN m]; unfold Mo.ZE; rw[pZ J] at x; rw[DG x]; rfl),T0,h.oS⟩
def MT {S:CS} (b:Rel S M) (g:M.Ok B):Df prog 193 [pV bc] (λw=>CR w bc S) [] (λ_:Unit=>aa (M.free:Int)) Tr (λ_=>[]):=by
 intro w z j;refine E0 func193 I j<|E ?_;have d:=b.len;have o:=g.n64;refine Cr I<|A I<|Y I<|A I<|E<|Y I<|C 2 I<|N Dj I F4 I<|U I nD<|U I (AM I Fx I z.f.kp)<|uG ?_;refine Bm (λ(i:Nat)=>[(3,aa (((M.fr.take i).countP XJ):Int)),(9,S.vF),(10,aa (S.fl.length:Int)),(11,aa (i:Int))]) (λ(i:Nat)=>St w [] []) (λ(i:Nat)=>i<=S.fl.length) (λ(i:Nat)=>S.fl.length-i) (0) (qc _) (Si I) Ih<|λi hi=>E ?_
 have m:((M.fr.take i).countP XJ)<=(M.fr.take i).length:=List.countP_le_length;have k:=tt i M.fr;refine Cr I<|U I (Ql I)<|Ns<|CB 12 I (λl=>?_)<|λl=>?_
 .obtain⟨f,x⟩:=gE S.fl i;have n:=b.XU x;have y:=Lu (p:=XJ) n;refine Am I<|Ah<|Ks<|Af<|Y I<|U I (Aw i I Fx Er I z.f.kp I I)<|U I (Bc i I isAgg259 Er I I z.f.kp x)<|Z I<|Ax I I I zeroValue259<|λq=>Z I<|SW Er I (FC.one _)<|Nk<|Y I<|N Ej I Z3 I<|Lo G3 0 I<|U I (Qe I)<|Nk<|CB 17 I (λa=>?_)<|λa=>?_
  .refine Am I (Cr I<|r I<|U I (Qi I)<|Nh I<|AE<|hJ ?_);exact AJ (i+1) J J (Sub.RJ I (by rw[y,pN<|show XJ (vw f)=true from sT a])<|Si I) Jx
  refine WG ?_;exact AJ (i+1) J J (Sub.RJ I (by rw[y,pQ<|show ¬XJ (vw f)=true from λe=>a<|sW e,sf])<|Si I) Jx
 exact Ab I<|AP<|Aa<|Aa<|Ar<|Kt<|Y I<|r I<|A I<|s<|Av I I<|λ_ h=>⟨(),congrArg Ei (by rw[pZ J]; rfl),T0,h.oS⟩
def XfW {S:CS} (e:Rel S M) (b:M.Ok B):Df prog 99 [pV bc] (λw=>CR w bc S) [] (λv:d0=>v) Tr (λv=>[AG v 3 ds<|M.line.map Prod.fst]):=by
 intro w y f;refine E0 func99 I f<|E ?_;have g:=e.ak;have hlB:=b.lB;have j:=b.B9;refine Cr I<|A I<|Y I<|A I<|E<|Y I<|C 2 I<|N Dj I KK I<|U I kC<|U I (AM I Gm I y.l.kp)<|r I<|Nk<|YA ?_;refine B6 (λ(i:Nat) (v:d0)=>[(3,v),(9,S.vL),(10,aa (S.ln.length:Int)),(11,aa (i:Int))]) (λ(i:Nat) (v:d0)=>St w [] [AG v 3 ds<|(M.line.take i).map Prod.fst]) (λ(i:Nat) (v:d0)=>i<=S.ln.length) (λ(i:Nat) (v:d0)=>S.ln.length-i) (0) (.slice none 0 0) (qc _) (Si I) Ih<|λi v hi=>E ?_
 have a:=tt i M.line;have m:((M.line.take i).map Prod.fst).length<=i:=by rw[qY]; exact a
 refine Cr I<|U I (Ql I)<|Ns<|CB 12 I (λk=>?_)<|λk=>?_
 .obtain⟨q,d⟩:=gE M.line i;have z:S.ln[i]?=some (wn q):=by rw[e.ln,qq,d]; rfl
  refine Am I<|Ah<|Ks<|Af<|Y I<|U I (Aw i I Gm FT I y.l.kp I I)<|U I (Bc i I PI FT I I y.l.kp z)<|Z I<|Ax I I I zeroValue277<|λp=>Z I<|SW FT I (Wn.one _)<|Nk<|Cr I<|r I<|N MB I Z3 I<|Lo G3 0 I<|Z I<|As (sz:=1) [.tmp 17] I I I I I KI Z3 I zeroValue3 I<|λo=>AQ<|Z I<|Ap KI KI CD I (λ_ h=>AR kj ds [q.1] I I) xW<|λn=>Ba (show _=(M.line.take<|i+1).map Prod.fst from by rw[sH,d,qR]; rfl)<|AD<|Ae<|Nh I<|AE<|wA ?_
  exact AJ ((i+1,n)) xu xu (Si I) Jx
 have x:((M.line.take i).map Prod.fst)=M.line.map Prod.fst:=by rw[pZ J]
 exact Ba x N0
def XfX (f:FC):(f.c.drop 6).take 5=f.nv.c:=rfl
def NR (w:d7) (S:CS):Prop:=∀f∈S.fl,OE w f.nv
def NR.keep {S:CS} {H:ci} (h:NR w0 S) (s:St w0 [] H w):NR w S:=λf x=>(h f x).keep s
def XfY (h:M.Me b 2=some i):M.node b=((M.at' i).nd,true):=by unfold Mo.node Mo.ready; rw[h]
def XaA (h:M.Me b 2=none):M.node b=(nd0,false):=by unfold Mo.node Mo.ready; rw[h]
def Xfd {S:CS} (a:Rel S M) (d:M.Ok B) (t:Int):Df prog 132 [pV bc,aa t] (λw=>CR w bc S) [] (λ_:Unit=>.bool<|M.may t) Tr (λ_=>[]):=by
 intro w x j;refine E0 func132 I j<|Y I<|A I<|E<|Y I<|r I<|Z I<|E1 (KQ t) I call190 Tt<|λ_ _=>U I (Qt I)<|r I<|CB 9 I (λe=>?_)<|λe=>?_
 .exact C 4 I<|Nk<|Am I<|Y I<|A I<|s<|Ag<|Av I I<|λ_ h=>⟨(),congrArg Eb (by unfold Mo.may; rw[e]; rfl),T0,h.oS⟩
 refine C 2 I (Z I<|E1 (bC a d t) I call191 jR<|λ_ _=>U I (Qz I)<|Nk<|CB 13 I (λf=>?_)<|λf=>?_)
 .exact Am I<|Y I<|A I<|s<|Ag<|Av I I<|λ_ h=>⟨(),congrArg Eb (by unfold Mo.may; rw[e,f]; rfl),T0,h.oS⟩
 refine Ab I (Ah<|Kt<|Y I<|C 2 I<|Z I<|E1 (Gw a d t) I call192 jR<|λ_ _=>A I<|E<|Cu (M.stand t) (λb=>?_)<|λk b=>?_)
 .refine LH 5 (aa (-1)) I (by rw[b]; rfl) (Cr I<|C 3 I<|Sb 19 true I (I)<|C 18 I ?_);exact C 3 I<|A I<|s<|Av I I<|λ_ h=>⟨(),congrArg Eb<|(Xg4 e f b).symm,T0,h.oS⟩
 obtain⟨q,i,m⟩:=Iv b;have z:=Xg5 e f b i;have y:S.ln[k]?=some (wn q):=by rw[a.ln,qq,i]; rfl
 have o:=(qp.1 y).1;refine LH 5 (aa (k:Int)) I (by rw[b]; rfl)<|Cr I<|C 3 I<|Sf 19 I J<|C 3 I<|CB 22 I (λn=>?_)<|λn=>?_
 .refine r I (Z I<|E1 (MT a d) I call193 jR<|λ_ _=>U I vd<|C 3 I<|CB 28 I (λg=>?_)<|λg=>?_)
  .exact C 12 I<|A I<|s<|Av I I<|λ_ h=>⟨(),congrArg Eb (by rw[z,sT (show k=0 by omega),sT<|show 0<M.free by omega]; rfl),T0,h.oS⟩
  exact C 3 I uA
 exact C 9 I uA
def Hy {S:CS} (e:Rel S M) (j:M.Ok B) (t:Int):Df prog 291 [pV bc,aa t] (λw=>CR w bc S) [] (λv:d0=>v) Tr (λv=>[AG v 284 (ON S.vF)<|cls M t M.fr.length]):=by
 intro w z k;refine E0 func291 I k<|E ?_;have g:=e.len;have p:=j.n64;refine Cr I<|A I<|Y I<|A I<|E<|Y I<|C 2 I<|N Dj I F4 I<|U I nD<|U I (AM I Fx I z.f.kp)<|r I<|Nk<|Af<|row0 284 (ON S.vF) none ?_;refine B6 (λ(i:Nat) (v:d0)=>[(0,pV bc),(1,aa t),(5,v),(12,aa (S.fl.length:Int)),(13,aa (i:Int))]) (λ(i:Nat) (v:d0)=>St w [] [AG v 284 (ON S.vF)<|cls M t i]) (λ(i:Nat) (v:d0)=>i<=S.fl.length) (λ(i:Nat) (v:d0)=>S.fl.length-i) (0) (.slice none 0 0) (qc _) (Si I) Ih<|λi v hi=>E ?_
 have m:=P1 M t i;refine Cr I<|U I (Ql I)<|Ns<|CB 14 I (λl=>?_)<|λl=>?_
 .obtain⟨f,y⟩:=gE S.fl i;have n:=e.XU y;have x:=MS M t i;rw[Ls n,Xka] at x;refine Am I<|Ah<|Ks<|Af<|Y I<|r I<|A I<|Y I<|C 2 I<|N Dj I F4 I<|U I nD<|r I<|U I (Aw i I Fx Er I z.f.kp I I)<|A I<|Y I<|C 2 I<|N Ej I Z3 I<|U I (AO i 0 I G3 I I z.f.kp y I)<|C 2 I<|CB 27 I (λa=>?_)<|λa=>?_
  .refine C 2 I (N Ej I Z3 I<|U I (AO i 2 I G3 I I z.f.kp y I)<|C 3 I<|Nk<|CB 34 I (λd=>?_)<|λd=>?_)
   .rw[sT a,sT d,Bool.and_self,pN rfl] at x;refine Am I<|Cr I<|C 2 I<|Z I<|As (sz:=1) [.tmp 36] I I I I I Oi sizeOf284 I zeroValue284 I<|λq=>AD<|Z I<|Ap Oi Oi Xiw I (λ_ h=>AR kj (ON S.vF) [i] I I) xW<|λo=>AD<|Ae<|Nh I<|AE<|HO ?_
    exact AJ ((i+1,o)) xu xu (Si I)<|λ_ h=>by dsimp only; rw[x]; exact h
   rw[sT a,sS d,tu,pQ A2] at x;refine Tm ?_;exact ZEV
  rw[sS a,rZ,pQ A2] at x;refine C 7 I<|Nk<|Tm ?_;exact ZEV
 have b:i=M.fr.length:=by omega
 subst b;exact N0
def Iw (nv:NV) (b:nv.d.Sm 65536):Df prog 155 [.agg nv.c.toArray] (λw=>OE w nv) [] (λs:N4=>.agg (⟨s,nv.d⟩:NV).c.toArray) Tr (λs=>Bo ⟨s,nv.d⟩):=by
 intro w a g;refine E0 func155 I g<|Y I<|Z I<|AT I I I I<|λi=>Ce nv.c I<|Z I<|Ax I I I zeroValue135<|λl=>Ce NZ.c I<|Ns<|LZ [0,1,3,4,6,7,9,10,2,12,5,8,11,13,14,15,16,17,18,19] 3485964276 (λj=>(Ac i 135 nv.c).at j) I St.drawn uq<|Ht Bj I RQ I<|Dq I (Aj I UN I Ih I)<|Ht Bj I OQ I<|Dq I (Aj I Pq I Ih I)<|Ht Bj I Eo I<|Dq I (Aj I H6 I Ih I)<|Ht Bj I DS I<|Dq I jv<|MX I<|AX (XeR nv.d.es b.e) I I I call220 I a.e.kp<|λq _=>Ai xd<|Ht Bj I RQ I<|Ux ?_
 rintro⟨x,rfl⟩;refine MX I<|AX (XeS nv.d.kids b.k) I I I call107 I a.k.kp<|λr _=>Ai Uu<|Ux ?_
 rintro⟨y,rfl⟩;refine MX I<|AX (XeT nv.d.piv b.p) I I I call221 I a.p.kp<|λn _=>Ai RY<|Ux ?_
 rintro⟨z,rfl⟩;refine MX I<|AX (RK nv.d.msgs b.m) I I I call222 I a.m.kp<|λo _=>Ai Ve<|Ux ?_
 rintro⟨f,rfl⟩;refine B7<|KC I<|AB I I RQ I I I (by show 1<5; decide)<|Ce (⟨⟨x,nv.s.k,nv.s.p,nv.s.m⟩,nv.d⟩:NV).c I<|KC I<|R I I Zd<|KC I<|AB I I OQ I I I (by show 2<5; decide)<|Ce (⟨⟨x,y,nv.s.p,nv.s.m⟩,nv.d⟩:NV).c I<|KC I<|R I I (AU I Bj I Eo I I)<|KC I<|AB I I Eo I I I (by show 3<5; decide)<|Ce (⟨⟨x,y,z,nv.s.m⟩,nv.d⟩:NV).c I<|KC I<|R I I (AU I Bj I DS I I)<|KC I<|AB I I DS I I I (by show 4<5; decide)<|Ce (⟨⟨x,y,z,f⟩,nv.d⟩:NV).c I<|AN<|Kt<|Y I<|U I (Cq ((⟨⟨x,y,z,f⟩,nv.d⟩:NV).c) AV AK 0 I (I)<|I)<|B7 ?_;exact Z I<|SW AK I Nc<|Nk<|Al<|Pm [5,4,3,2] I<|CE I aC<|λ_ h=>⟨⟨x,y,z,f⟩,rfl,T0,h.sublist<|tA.2<|tA.2<|tA.2<|tA.2<|sj _⟩
def CR.WT {S:CS} {H:ci} (h:St w0 D H w) (a:∀e∈S.H bc,e∈H):CR w bc S:=by
 have at':∀e,e∈S.H bc->e.at w:=λe x=>h.hp.holds e<|a e x
 have m0:∀e (k:Nat),(S.H bc)[k]?=some e->e.at w:=λe k y=>at' e<|ry y
 exact⟨m0 _ 0 rfl,BA<|m0 _ 1 I,m0 _ 2 rfl,m0 _ 3 rfl,BA<|m0 _ 4 I,λq z=>BA<|at' _<|sw _<|qj.2 ⟨q,z,rfl⟩⟩
def Rel.line {S:CS} (h:Rel S M) (v:d0) (l:List<|Int×Int):Rel {S with vL:=v,ln:=l.map wn} {M with line:=l}:=⟨h.fr,rfl,h.hd,h.at',h.ld,h.nd,h.na⟩
def RL {l:List<|Int×Int} (h:(l.map Prod.fst).Nodup) (i:Nat):((l.eraseIdx i).map Prod.fst).Nodup:=h.sublist<|(List.eraseIdx_sublist ..).map _
def Mo.Ok.mono {C:Nat} (h:M.Ok B) (x:B<=C) (z:C<=60000):M.Ok C :=
 ⟨h.n1,h.n64,h.st,h.none',h.blk,h.own,h.XL,λf y=>⟨(h.pins f y).1,tB (h.pins f y).2 J⟩,h.uni,qM h.ll x,qM h.lB x,h.ln,h.lb,h.lo,h.es,h.hw,z⟩
def YZ (h:M.Ok B) (t:Int):(M.leave t).Ok B:=by
 refine⟨h.n1,h.n64,h.st,h.none',h.blk,h.own,h.XL,h.pins,h.uni,h.ll,?_,?_,?_,h.lo,h.es,h.hw,h.B9⟩
 .show (M.leave t).line.length<=B
  unfold Mo.leave;simp only;split
  .exact qM (List.length_eraseIdx_le ..) h.lB
  exact h.lB
 .show ((M.leave t).line.map Prod.fst).Nodup
  unfold Mo.leave;simp only;split
  .exact RL h.ln _
  exact h.ln
 intro q y;refine h.lb q ?_;have x:q∈(M.leave t).line:=y;unfold Mo.leave at x;simp only at x;split at x
 .exact (List.eraseIdx_sublist ..).subset x
 exact x
def Xb7 (h:M.Ok B) (t b:Int) (g : -1<=b/\b<256) (z:B+1<=60000):(M.ask t b).Ok (B+1):=by
 have d:=h.mono (tC B) z;refine⟨h.n1,h.n64,h.st,h.none',h.blk,h.own,h.XL,d.pins,h.uni,d.ll,?_,?_,?_,h.lo,h.es,h.hw,z⟩
 .show (M.ask t b).line.length<=B+1
  unfold Mo.ask;simp only;split
  .rw[pK]; have:=h.lB; simp; omega
  have:=h.lB; omega
 .show ((M.ask t b).line.map Prod.fst).Nodup
  unfold Mo.ask;simp only;split
  .rename_i hs;rw[qR,su];refine⟨h.ln,A3,λa i c f e=>?_⟩;simp only[qG,qH,rU] at f;subst f; subst e;obtain⟨q,y,rfl⟩:=qj.1 i;have:=Fp (ti.1 hs) q y;simp[Xy] at this
  exact h.ln
 intro q y;have x:q∈(M.ask t b).line:=y;unfold Mo.ask at x;simp only at x;split at x
 .rcases rB.1 x with x|x
  .exact h.lb q x
  simp only[rU] at x; subst x; exact g
 exact h.lb q x
def Xg6 (l:List<|Int×Int) (i:Nat):(l.map wn).eraseIdx i=(l.eraseIdx i).map wn:=(Es wn l i).symm
def XfZ {S:CS} (n:Rel S M) (m:M.Ok B) (b:Int):Df prog 116 [pV bc,aa b] (λw=>CR w bc S/\NR w S) [] (λs:N4=>.tuple #[.agg (⟨s,(M.node b).1⟩:NV).c.toArray,.bool (M.node b).2]) Tr (λs=>Bo ⟨s,(M.node b).1⟩):=by
 intro w t r;obtain⟨o,v⟩:=t;refine E0 func116 I r<|Y I<|Z I<|Ax I I I zeroValue135<|λD=>Ce NZ.c I<|Ak I<|Y I<|Mv 2 I<|Z I<|E1 (F9 n m b 2) I call165 (λ_ h=>CR.keep o h)<|λ_ _=>Ak I<|E<|E<|Cu (M.Me b 2) (λz=>?_)<|λi z=>?_
 .exact LH 6 av I (by rw[z]; rfl)<|Cr I<|Lm I<|U I (E3 I JA I I)<|Nk<|Sb 11 true I (I)<|Am I<|Y I<|U I (AS NZ.c I I uX)<|Z I<|SW AK I Nc<|Ak I<|Al<|Ag<|row0 154 Ms.enc none<|row0 77 (Kv.enc 8) none<|row0 3 ds none<|row0 79 En.enc none<|C1 I aC (id I)<|λ_ h=>⟨n40,by rw[XaA z]; rfl,T0,by rw[XaA z]; exact h.sublist<|tA.2<|tA.2<|tA.2<|tA.2<|sj _⟩
 obtain⟨k,u⟩:=JH z;obtain⟨y,p,A,q,j⟩:=Fq k;obtain⟨f,x,e⟩:=n.get p;have C:=(qp.1 x).1;have a:=XfY z;rw[j,<-e] at a;have g:=ry x
 have l:f.nv.d.Sm 65536:=by
  have:=m.es y<|ry p;rw[<-e] at this; exact this.mono A2
 exact LH 6 (fp S.vF i) I (by rw[z]; rfl)<|Cr I<|Lm I<|U I (E3 I JA I I)<|Nk<|Sb 11 false I (I)<|Ab I<|Ah<|Kt<|Y I<|Mv 2 I<|N Ej I AK I<|U I (Ij i 6 I AV AK I I o.f.kp x A2)<|LH 16 (.agg f.nv.c.toArray) I (by rfl)<|Z I<|EH (Iw f.nv l) I I I call155 I (λ_ h=>(NR.keep v h) f g)<|λs _=>Cd<|Z I<|SW AK I Nc<|Ak I<|Al<|Pm [1,1,1,1] I<|C1 I aC (id I)<|λ_ h=>⟨s,by rw[a]; rfl,T0,by rw[a]; exact h.sublist<|tA.2<|tA.2<|tA.2<|tA.2<|sj _⟩
def RM {S:CS} (p:Rel S M) (o:M.Ok B):Df prog 97 [pV bc] (λw=>CR w bc S/\NR w S) [] (λb:d0×cO×ci=>b.1) (λb=>b.2.1.map vw=M.fr/\∀f∈b.2.1,∀e∈Bo f.nv,e∈b.2.2) (λb=>AG b.1 202 FC.ZC b.2.1::b.2.2):=by
 intro w D u;obtain⟨j,J⟩:=D;refine E0 func97 I u<|Ad ?_;have K:=p.len;have H:=o.n64;refine Cr I<|Ak I<|Y I<|Ak I<|Ad<|Y I<|C 2 I<|N Dj I F4 I<|U I (Aj I GO I (λ_ h=>(CR.keep j h).c) I)<|U I (AM I Fx I j.f.kp)<|Lm I<|Nk<|Af<|row0 202 FC.ZC none ?_;refine Xiq (λ(i:Nat) (v:d0) (fs:cO) (G:ci)=>[(3,v),(9,S.vF),(10,aa (S.fl.length:Int)),(11,aa (i:Int))]) (λ(i:Nat) (v:d0) (fs:cO) (G:ci)=>St w []<|AG v 202 FC.ZC fs::G) (λ(i:Nat) (v:d0) (fs:cO) (G:ci)=>i<=S.fl.length/\fs.map vw=M.fr.take i/\∀f∈fs,∀e∈Bo f.nv,e∈G) (λ(i:Nat) (v:d0) (fs:cO) (G:ci)=>S.fl.length-i) (0) (.slice none 0 0) ([]) ([]) ⟨qc _,rfl,λf h=>wU⟩ (Si I) Ih<|λi v fs G t=>Ad ?_
 obtain⟨hi,y,q⟩:=t;have n:fs.length<=i:=by have:=congrArg List.length y; rw[qY,pI] at this; omega
 refine Cr I<|U I (Ql I)<|Ns<|CB 12 I (λC=>?_)<|λC=>?_
 .obtain⟨f,x⟩:=gE S.fl i;have r:=p.XU x;have k:=ry x;have m:f.nv.d.Sm 65536:=(o.es (vw f)<|ry r).mono A2;refine Am I<|Ah<|Ks<|Af<|Y I<|U I (Aw i I Fx Er I j.f.kp I I)<|U I (Bc i I isAgg259 Er I I j.f.kp x)<|Z I<|Ax I I I zeroValue259<|λA=>Z I<|SW Er I (FC.one _)<|Nk<|LZ (rg 18) 58989951 (λE=>(Ac A 259 f.c).at E) I St.drawn uP<|Dm I<|Ht Ej I Z3 I<|Dq I xB<|Ht Ej I Z3 I<|Dq I xB<|Ht Ej I Z3 I<|Dq I xB<|Ht Ej I Z4 I<|Dq I dV<|Ht Ej I Z4 I<|Dq I dV<|Ht Ej I AK I<|Dq I (AH f.nv.c I AV AK I Ih (XfX _)<|I)<|MX I<|EH (Iw f.nv m) I I I call155 I (λ_ h=>(NR.keep J h) f k)<|λs _=>Ai RY<|Dq I (AS (({f with nv:=⟨s,f.nv.d⟩}:FC).cA) I I uX)<|MX I<|As (sz:=13) [.tmp 29] I I I I I YG sizeOf202 I zeroValue202 I ?_
  intro L;refine Ai Ve<|C3<|MX I<|Ap YG YG Xit I (λ_ h=>AR kj FC.ZC [({f with nv:=⟨s,f.nv.d⟩}:FC)] I I) xW<|λF=>AD<|Ae<|Ai Ve<|Sz I<|AN<|Au<|Kt<|Cr I<|U I (Qi I)<|Lm I<|AE<|B7<|Ae ?_
  exact AJ ((i+1,F,fs++[({f with nv:=⟨s,f.nv.d⟩}:FC)],Bo (({f with nv:=⟨s,f.nv.d⟩}:FC)).nv++G)) xu ⟨xu,by dsimp only; rw[qR,y,sH,r]; rfl,λg z=>by
   dsimp only at z ⊢;rcases rB.1 z with z|z
   .exact λe l=>sw _<|q g z e l
   simp only[rU] at z; subst z; exact λe l=>qh _ l⟩ (Si I) Jx
 have a:fs.map vw=M.fr:=by rw[y,pZ A1]
 exact Ab I<|AP<|Aa<|Aa<|Ar<|Kt<|Y I<|Lm I<|Ak I<|Al<|Av I I<|λ_ h=>⟨(v,fs,G),rfl,⟨a,q⟩,h⟩
def JI {S:CS} (z:Rel S M) (a:M.Ok B) (t:Int):Df prog 243 [pV bc,aa t] Tr (S.H bc) (λv:d0=>.tuple #[]) Tr (λv=>CS.H bc {S with vL:=v,ln:=(M.leave t).line.map wn}):=by
 intro w m d;refine enter (n:=21) (vs:=[pV bc,aa t]) (St w (dom<|S.H bc)<|CS.H bc<|S) func243 I I I (St.init d) ?_;refine Y I<|C 2 I<|Z I<|E1 (Gw z a t) I call192 (λ_ h=>CR.WT (S:=S) h<|λe l=>l)<|λ_ _=>A I<|E<|Cu (M.stand t) (λy=>?_)<|λi y=>?_
 .have x:(M.leave t).line=M.line:=by unfold Mo.leave; rw[y]
  exact LH 4 (aa (-1)) I jg<|Cr I<|C 2 I<|Nk<|Sb 9 false I (I)<|Ab I<|Ah<|AW ZEz
 have x:(M.leave t).line=M.line.eraseIdx i:=by unfold Mo.leave; rw[y]
 obtain⟨q,j,f⟩:=Iv y;have b:i<S.ln.length:=by rw[z.ak]; exact (qp.1 j).1
 have o:=a.lB;have k:=a.B9;have g:=z.ak;refine LH 4 (aa (i:Int)) I jg<|Cr I<|C 2 I<|Nk<|Yf 9 I J<|Am I<|Cr I<|C 3 I<|N Dj I KK I<|Lo PJ 0 I<|C 2 I<|U I (Qi I)<|Cd<|Z I<|Bp (yS S.ln i b J) I I I call284 I Tt<|λv _=>Lc I<|N Dj I KK I<|Ba (l':=(M.leave t).line.map wn) (by rw[x,z.ln,Xg6])<|Ux ?_
 rintro⟨c,rfl⟩;exact AD<|Z I<|AB I I KK I I I (rO I)<|Ce ({S with vL:=c.v,ln:=(M.leave t).line.map wn}:CS).cells I<|AE<|AW<|Pm [0,1,1,1] I<|Bl I<|λ_ h=>⟨c.v,rfl,T0,h⟩
def XaU {S:CS} (z:Rel S M) (a:M.Ok B) (t b:Int):Df prog 245 [pV bc,.agg (wn (t,b)).c.toArray] Tr (S.H bc) (λv:d0=>.tuple #[]) Tr (λv=>CS.H bc {S with vL:=v,ln:=(M.ask t b).line.map wn}):=by
 intro w o g;refine enter (n:=19) (vs:=[pV bc,.agg (wn (t,b)).c.toArray]) (St w (dom<|S.H bc)<|CS.H bc<|S) func245 I I I (St.init g) ?_;refine Y I<|Z I<|AT I I I I<|λm=>Ce (wn (t,b)).c I<|Nk<|Y I<|r I<|N MB I Z3 I<|Lo G3 0 I<|Z I<|E1 (Gw z a t) I call192 mQ<|λ_ _=>U I (Ql I)<|Nk<|Cu (M.stand t) (λy=>?_)<|λi y=>?_
 .have x:(M.ask t b).line=M.line++[(t,b)]:=by unfold Mo.ask; rw[y]; rfl
  have p:=a.lB;have k:=a.B9;have j:=z.ak;refine Sb 8 true I jg<|Am I<|LZ (rg 11) 173502 (λf=>(Ac bc 257 S.cells).at f/\(Ac m 277 (wn (t,b)).c).at f) I St.drawn Yv<|Md 3 I<|Ht Dj I KK I<|Dq I (Aj I PJ I uO I)<|Dq I (AH ((wn (t,b)).c) I PI FT I uS (I)<|I)<|MX I<|As (sz:=3) [.tmp 14] I I I I I Gm FT I zeroValue277 I<|λr=>Ai Vy<|C3<|MX I<|Ap Gm Gm Xbk I (λ_ h=>AR kj Wn.enc [(wn (t,b))] I I) xW<|λq=>Ba (show _=(M.ask t b).line.map wn from by rw[x,z.ln,qR]; rfl)<|AD<|Ae<|Ai Vy<|KC I<|R I I zQ<|KC I<|R I I (AU I Dj I KK I I)<|Ux ?_
  rintro⟨d,rfl⟩;exact AQ<|KC I<|AB I I KK I I I (rO I)<|Ce ({S with vL:=d.v,ln:=(M.ask t b).line.map wn}:CS).cells I<|AN<|AW<|AQ<|Ae<|Pm [0,1,1,1] I<|Bl I<|λ_ h=>⟨d.v,rfl,T0,h⟩
 have x:(M.ask t b).line=M.line:=by unfold Mo.ask; rw[y]; rfl
 exact Sb 8 false I (by rw[y]; exact sS<|by simp[io])<|Ab I<|Ah<|AW<|Ae ZEz
section
variable {P:d8} {n:Nat} {L:Env} {X:aU} {o:Oper}
def jx {t e:d4} {y:d5} {b a z:Nat} (j:o.op=.binOp .eql t x y u) (f:P.underlying t=some (.pointer e)) (c:∀w,(sizeOf e).run P w=.ok sz w) (k:sz≠0) (g:ev L x=some (.pointer<|some ⟨b,a,none⟩)) (l:ev L y=some (.pointer<|some ⟨b,z,none⟩)):MV P n L X o (.bool<|decide (a=z)) :=
 DJ j g l<|λw _=>Fv rfl (PA w rfl (KG w (λd=>by
  have i:((⟨b,a,none⟩:Addr) == ⟨b,z,none⟩)=decide (a=z):=by
   by_cases h:a=z
   .subst h; simp
   rw[sS h]; rw[rM]; intro m; exact h<|congrArg Addr.off<|rS.1 m
  unfold Op.equalIn
  simp[Be f,c,k,sameAddr,i])))
end
def Xg7 {e:Nr} (hj:T[j]?=some e):T.Perm (e::T.eraseIdx j):=by
 induction T generalizing j with
 |nil=>cases hj
 |cons a T ih =>
  cases j with
  |zero=>cases hj; exact sU _
  |succ j=>exact ((ih hj).cons a).trans<|List.Perm.swap e a _
def XiH {e:Nr} (hj:j<T.length):(e::T.eraseIdx j).Perm (T.set j e):=by
 induction T generalizing j with
 |nil=>cases hj
 |cons a T ih =>
  cases j with
  |zero=>exact sU _
  |succ j=>exact (List.Perm.swap a e _).trans<|(ih<|by simpa using hj).cons a
section
variable {w0 w:d7} {D:bm}
def St.Xdi {e:Nr} (hj:T[j]?=some e) (h:St w0 D (pre++T) w):St w0 D (e::(pre++T.eraseIdx j)) w :=
 h.perm<|((Xg7 hj).append_left pre).trans sQ
def St.XlF {e:Nr} (hj:j<T.length) (h:St w0 D (e::(pre++T.eraseIdx j)) w):St w0 D (pre++T.set j e) w :=
 h.perm<|sQ.symm.trans<|(XiH hj).append_left pre
def St.Xh7 {e:Nr} (h:St w0 D (e::(pre++T)) w):St w0 D (pre++(T++[e])) w :=
 h.perm<|by
  rw[<-qQ]
  exact (List.perm_append_singleton e<|pre++T).symm
end
def J6 {p:α->Bool}:∀{l:List α} {i:Nat} {x y:α},l[i]?=some x->p y=p x->B8 p (l.set i y)=B8 p l
 |[],i,x,y,h,_=>wU
 |a::l,0,x,y,h,hp=>by
  cases h
  unfold B8
  simp only[rL,tD,hp]
 |a::l,i+1,x,y,h,hp=>by
  have z:=J6 (p:=p) (l:=l) (i:=i) (x:=x) (y:=y) sv hp
  unfold B8 at z ⊢
  simp only[sC,tD,z]
def Xg8 {p:α->Bool} {l:List α} {x y:α} (hi:l[i]?=some x) (c:B8 p l=none) (b:p y):B8 p (l.set i y)=some i:=by
 have h:=(qp.1 hi).1;refine Db (y:=y) (by rw[tE h]) b<|λz a=>?_
 rw[List.take_set_of_le<|qb _] at a;exact Fp c z<|pF a
def Xg9 (h:M.fr[i]?=some y) (x:∀b,Oq b y'=Oq b y) (b:Int):(M.put i y').find b=M.find b:=J6 h<|x b
def Xf0 (z:M.fr[i]?=some y) (h:y'.blk=y.blk) (x:(y'.st=1\/y'.st=2)↔(y.st=1\/y.st=2)) (b:Int):(M.put i y').find b=M.find b :=
 Xg9 z (λc=>by
  unfold Oq
  rw[h]
  congr 1
  rw[<-Bool.decide_or,<-Bool.decide_or,te]; exact x) b
def eb (z:M.fr[i]?=some y) (a:¬(y.st=1\/y.st=2)) (d:M.find b=none) (x:y'.blk=b) (f:y'.st=1\/y'.st=2) (c:Int):(M.put i y').find c=if c=b then some i else M.find c:=by
 have h:∀c,Oq c y=false:=λc=>by
  unfold Oq;rw[<-Bool.decide_or,sS a,tu]
 split
 .rename_i e; subst e;exact Xg8 z d<|by unfold Oq; rw[<-Bool.decide_or,sT f,sT x]; rfl
 rename_i e;exact J6 z<|by rw[h]; unfold Oq; rw[sS<|λe'=>e<|by rw[<-e',x]]; rfl
def KR {B:Nat} (h:M.Ok B) {i:Nat} {y y':Vw} (u:M.fr[i]?=some y) (E:y'.st=0\/y'.st=1\/y'.st=2\/y'.st=3) (D:y'.st=0\/y'.st=3->y'.blk = -1) (J:y'.st=1\/y'.st=2->0<=y'.blk/\y'.blk<256) (A:y'.st=3->0<=y'.own/\y'.own<8) (C:y'.st≠3->y'.own=0) (v:0<=y'.pins/\y'.pins<=(B:Int))
 (t:y'.st=1\/y'.st=2->∀(j:Nat) (z:Vw),j≠i->M.fr[j]?=some z->z.st=1\/z.st=2->z.blk≠y'.blk) (G:∀q∈M.loads,y.st=1->y.blk=q.2->y'.st=1/\y'.blk=q.2) (F:y'.nd.Sm 1000):(M.put i y').Ok B:=by
 have p:=(qp.1 u).1;have hm:∀f∈(M.put i y').fr,f∈M.fr\/f=y':=λf x=>tF x
 have o:∀(j:Nat),(M.put i y').fr[j]?=if j=i then some y' else M.fr[j]?:=λj=>by
  show (M.fr.set i y')[j]?=_
  rw[tb];by_cases e:j=i
  .subst e; rw[pN rfl,pN p,pN rfl]
  rw[pQ Zh,pQ e]
 have s:(M.put i y').fr.length=M.fr.length:=sI;refine⟨by rw[s]; exact h.n1,by rw[s]; exact h.n64,λf x=>?_,λf x c=>?_,λf x c=>?_,λf x c=>?_,λf x c=>?_,λf x=>?_,λa b f g m n x l e=>?_,h.ll,h.lB,h.ln,h.lb,λq r=>?_,λf x=>?_,h.hw,h.B9⟩
 .rcases hm f x with x|rfl; exact h.st f x; exact E
 .rcases hm f x with x|rfl; exact h.none' f x c; exact D c
 .rcases hm f x with x|rfl; exact h.blk f x c; exact J c
 .rcases hm f x with x|rfl; exact h.own f x c; exact A c
 .rcases hm f x with x|rfl; exact h.XL f x c; exact C c
 .rcases hm f x with x|rfl; exact h.pins f x; exact v
 .rw[o] at m n;split at m<;>split at n
  .rename_i k d; rw[k,d]
  .rename_i k d; cases m; exact absurd e.symm<|t x b g d n l
  .rename_i k d; cases n; exact absurd e<|t l a f k m x
  exact h.uni a b f g m n x l e
 .obtain⟨f,x,k,d⟩:=h.lo q r;obtain⟨j,hj⟩:=tj.1 x;by_cases e:j=i
  .subst e;rw[u] at hj; cases hj
   obtain⟨H,w⟩:=G q r k d;exact⟨y',ry (by rw[o,pN rfl]),H,w⟩
  exact⟨f,ry (by rw[o,pQ e]; exact hj),k,d⟩
 rcases hm f x with x|rfl; exact h.es f x; exact F
def Rel.put {S:CS} (h:Rel S M) {i:Nat} {f':FC} {y':Vw} (z:vw f'=y') (y:List<|Int×Int) (a:∀b,Cw b y=Option.map (λi:Nat=>(i:Int)) ((M.put i y').find b)) (x:(y.map Prod.fst).Nodup):Rel {S with fl:=S.fl.set i f',at':=y} (M.put i y') :=
 ⟨by show (S.fl.set i f').map vw=M.fr.set i y'; rw[rH,h.fr,z],h.ln,h.hd,a,h.ld,h.nd,x⟩
def Ix (h:M.takes t=some k):∃y,M.fr[k]?=some y/\y.st=0/\M.at' k=y:=by
 unfold Mo.takes at h;split at h
 .obtain⟨y,x,z,_⟩:=Dd h;exact⟨y,x,sW z,Ls x⟩
 cases h
structure U0 (G:ci) (v:NV):Prop where
 e:(v.s.e=sv0/\v.d.es=[])\/Ct v.s.e v.d.es∈G
 k:(v.s.k=sv0/\v.d.kids=[])\/CT v.s.k v.d.kids∈G
 p:(v.s.p=sv0/\v.d.piv=[])\/CU v.s.p v.d.piv∈G
 m:(v.s.m=sv0/\v.d.msgs=[])\/C5 v.s.m v.d.msgs∈G
def U0.zero (G:ci):U0 G NZ:=⟨.inl ⟨rfl,rfl⟩,.inl ⟨rfl,rfl⟩,.inl ⟨rfl,rfl⟩,.inl ⟨rfl,rfl⟩⟩
def U0.of {v:NV} (h:∀e∈Bo v,e∈G):U0 G v:=⟨.inr<|h _ A3,.inr<|h _ A3,.inr<|h _ A3,.inr<|h _ A3⟩
def U0.more {y:ci} {v:NV} (h:U0 G v) (x:∀e∈G,e∈y):U0 y v:=⟨h.e.imp id<|x _,h.k.imp id<|x _,h.p.imp id<|x _,h.m.imp id<|x _⟩
def U0.rd {v:NV} {H:ci} (h:U0 G v) (z:HP H w) (a:∀e∈G,e∈H):OE w v:=by
 refine⟨?_,?_,?_,?_⟩
 .rcases h.e with⟨x,y⟩|x
  .rw[x,y]; exact EC _
  exact jG
 .rcases h.k with⟨x,y⟩|x
  .rw[x,y]; exact EC _
  exact jG
 .rcases h.p with⟨x,y⟩|x
  .rw[x,y]; exact EC _
  exact jG
 rcases h.m with⟨x,y⟩|x
 .rw[x,y]; exact EC _
 exact jG
def Qj (G:ci) (fl:cO):Prop:=∀f∈fl,U0 G f.nv
def Qj.set (h:Qj G fl) {i:Nat} {f':FC} (y:U0 G f'.nv):Qj G (fl.set i f'):=λg x=>by
 rcases tF x with x|rfl
 .exact h g x
 .exact y
def Qj.lF (h:Qj G fl) {i:Nat} {f f':FC} (x:fl[i]?=some f) (e:f'.nv=f.nv):Qj G (fl.set i f'):=h.set<|by rw[e]; exact h f<|ry x
def Lw {S:CS} {k:Nat} (x:S.fl[k]?=some f) (j:S.fl.length<=65536):Df prog 246 [pV bc,fp S.vF k] Tr (S.H bc) (λ_:Unit=>.tuple #[]) Tr (λ_=>CS.H bc {S with at':=C4 f.blk (k:Int) S.at'}):=by
 intro w g e;refine enter (n:=31) (vs:=[pV bc,fp S.vF k]) (St w (dom<|S.H bc)<|CS.H bc<|S) func246 I I I (St.init e) ?_;refine E ?_;have c:=(qp.1 x).1;refine Cr I<|C 2 I<|N Dj I F4 I<|Lo GO 0 I<|U I (AM I Fx I RF)<|uG ?_;refine Bm (λ(i:Nat)=>[(0,pV bc),(1,fp S.vF k),(9,aa (S.fl.length:Int)),(10,aa (i:Int))]) (λ(i:Nat)=>St w (dom<|S.H bc)<|Ac bc 257 (S).cells::AG (S).vF 259 FC.enc (S).fl::D1 S.bA kI kI (if k<i then C4 f.blk (k:Int) S.at' else S.at')::D1 (S).bL kI vS (S).ld::AG (S).vL 277 Wn.enc (S).ln::(S).rows) (λ(i:Nat)=>i<=S.fl.length) (λ(i:Nat)=>S.fl.length-i) (0) (qc _) (Si I) Ih<|λi hi=>Y I<|yR ?_
 refine CB 11 I (λd=>?_)<|λd=>?_
 .refine Am I (Ah<|Ks<|Af<|Y I<|r I<|A I<|Y I<|C 2 I<|N Dj I F4 I<|Lo GO 0 I<|r I<|U I (Aw i I Fx Er I RF I I)<|r I<|U I (jx I JA Er A2 I I)<|Nk<|CB 20 I (λy=>?_)<|λy=>?_)
  .simp only[show FC.enc.sz=11 from rfl] at y;have z:i=k:=J;rw[pQ<|show ¬k<i by omega];refine Am I<|LZ (rg 10) 39366 _ I St.drawn Ih<|Md 2 I<|Ht Dj I ZW I<|Dq I (Aj I isAgg89 I uP I)<|Md 2 I<|Ht Ej I Z3 I<|Dq I (AO k 1 I G3 I I RF x I)<|Dm I<|AQ<|KC I<|PV f.blk (i:Int) I I ZU LY I I I<|AN<|Au<|Kt<|Cr I<|U I (Qi I)<|r I<|AE<|Pm [0,2,2] I<|Pm [3,3] I ?_;exact AJ (i+1) J J (Si I)<|λ_ h=>by rw[pN<|show k<i+1 by omega]; subst z; exact h
  simp only[show FC.enc.sz=11 from rfl] at y;have a:(k<i+1)=(k<i):=propext J;refine Tm ?_;exact AJ (i+1) J J (Si I)<|λ_ h=>by simpa only[a] using h
 have b:k<i:=by omega
 rw[pN b];exact Ab I<|AP<|Aa<|Aa<|Ar<|AW<|Bl I xm
def au:Nd:=⟨true,[],[],[],[]⟩
def Xf1 {X m Y us:bi} (h:k+us.length<=m.length):Sep.splice (X++(m++Y)) (X.length+k) us=X++(Sep.splice m k us++Y):=by
 rw[Sep.Vf _ _ _ uj,Sep.Vf _ _ _ h,sx,sK J,qS,sA,sL J];simp[qQ]
section
variable {P:d8} {n:Nat} {L:Env} {X:aU} {o:Oper} {Q:aB} {K:aO} {w0:d7} {D:bm} {H:ci}
def J7 {E:Enc α} {l:List α} {t e:d4} {y:d5} {off:Nat} (j k:Nat) (c:α) {a:α} {us:bi} (U:o.op=.store t x y) (hd:o.dst=none) (N:∀w,(sizeOf t).run P w=.ok sz w) (G:ev L x=some (.pointer<|some ⟨blk v,off,none⟩)) (z:off=Gl v+j*E.sz+k) (V:ev L y=some (.agg us.toArray))
 (s:l[j]?=some a) (p:us.length=sz) (X:k+sz<=E.sz) (S:∀v∈us,v.oneCell'=true) (R:Sep.splice (E.f a) k us=E.f c) (h:Pre n L (St w0 D<|AG v e E (l.set j c)::H) K):Nl P n L (St w0 D<|AG v e E l::H) o Q K :=
 Nl.skip _ hd (λW w r q=>by
  have hj:=(qp.1 s).1
  obtain⟨b,cap,pre,post,rfl,m,B,F⟩:=Ii q A1
  have i:=E.oU l
  have d:(j+1)*E.sz<=l.length*E.sz:=qy _ A1
  rw[pW,qz] at d
  have g:off+0+us.length<=(pre++E.flat l++post).length:=by subst z; simp only[Gl,pK,i]; omega
  obtain⟨T,M,u⟩:=CH (P:=P) (off:=off) us _ 0 F g S
  have Nn:Sep.splice (pre++E.flat l++post) (off+0) us=pre++E.flat (l.set j c)++post:=by
   subst z;simp only[Gl,sf]
   have J:l=l.take j++(a::l.drop (j+1)):=by
    have:=qp.1 s;rw[<-this.2]; simp
   have O:l.set j c=l.take j++(c::l.drop (j+1)):=by
    rw[sJ]; simp[hj]
   have q:(pre++E.flat (l.take j)).length=pre.length+j*E.sz:=by
    rw[pK,E.oU,pI,re A1]
   have A:pre++E.flat l++post=(pre++E.flat (l.take j))++(E.f a++(E.flat (l.drop<|j+1)++post)):=by
    conv=>lhs; rw[J]
    rw[E.pe,E.pg]; simp[qQ]
   have C:pre++E.flat (l.set j c)++post=(pre++E.flat (l.take j))++(E.f c++(E.flat (l.drop<|j+1)++post)):=by
    rw[O,E.pe,E.pg]; simp[qQ]
   rw[A,C,<-q,Xf1 (by rw[E.len]; omega),R]
  rw[Nn] at u;refine⟨T,by simp[execOp,U,r.eval G,r.eval V,Instr.storeAt,Instr.sureAddr,storeVar,N,Value.cells,p,blk]; simp[M],?_⟩;have:=DB (cap:=cap) u A1 (by simpa using m)<|by simpa using B
  simpa using this) h
end
def MU (h:M.Me b 2=none):M.Uf b=(false,M):=by unfold Mo.Uf Mo.ready; rw[h]
def Xaa (h:M.Me b 2=some i) (x:(M.at' i).pins=0):M.Uf b=(false,M):=by unfold Mo.Uf Mo.ready; rw[h]; simp only; rw[pN x]
def Xab (h:M.Me b 2=some i) (x:¬(M.at' i).pins=0):M.Uf b=(true,M.put i {M.at' i with pins:=(M.at' i).pins-1}):=by unfold Mo.Uf Mo.ready; rw[h]; simp only; rw[pQ x]
def RO (nd:Nd) (h:M.Me b 2=none):M.N7 b nd=(false,M):=by unfold Mo.N7 Mo.ready; rw[h]
def XaV (nd:Nd) (h:M.Me b 2=some i):M.N7 b nd=(true,M.put i {M.at' i with dirty:=true,nd:=nd}):=by unfold Mo.N7 Mo.ready; rw[h]
def OP (nd:Nd) (h:M.Me b 1=none):M.fill b nd=(([],false),M):=by unfold Mo.fill; rw[h]
def XaB (nd:Nd) (h:M.Me b 1=some i):M.fill b nd=((M.told b,true),{M.put i {M.at' i with st:=2,nd:=nd} with loads:=M.loads.filter<|λq=>!decide (q.2=b)}):=by unfold Mo.fill; rw[h]
def OR (f:FC) (nv:NV):Sep.splice f.c 6 nv.c=({f with nv:=nv}:FC).c:=rfl
def Rel.fP {S:CS} (h:Rel S M) {i:Nat} {f f':FC} {y':Vw} (y:S.fl[i]?=some f) (x:vw f'=y') (z:f'.blk=f.blk) (a:(f'.st=1\/f'.st=2)↔(f.st=1\/f.st=2)):Rel {S with fl:=S.fl.set i f'} (M.put i y') :=
 h.put x S.at' (λb=>by rw[Xf0 (h.XU y) (by rw[<-x]; exact z)<|by rw[<-x]; exact a]; exact h.at' b) h.na
def XeU (b c:Int):(((M.loads.filter<|λq=>!decide (q.2=b)).filter<|λq=>decide (q.2=c)).map Prod.fst)=if c=b then [] else M.told c:=by
 unfold Mo.told;rw[List.filter_filter];split
 .rename_i e; subst e;have:(λq:Int×Int=>decide (q.2=c)&&!decide (q.2=c))=λ_=>false:=by funext q; cases decide (q.2=c)<;>rfl
  rw[this]; simp
 rename_i e;congr 1;refine List.filter_congr<|λq _=>?_
 by_cases h:q.2=c
 .rw[sT h,sS<|λe'=>e<|by rw[<-h,e']]; rfl
 rw[sS h]; rfl
def KS (a:Int):∀l:List<|Int×β,((BY a l).map Prod.fst).Sublist (l.map Prod.fst)
 |[]=>tG _
 |(x,y)::l=>by
  simp only[BY]
  split
  .exact (si _ _)
  .exact (KS a l).cons_cons x
def Fs:∀{l:List<|Int×β},(l.map Prod.fst).Nodup->Cw a (BY a l)=none
 |[],_=>rfl
 |(x,y)::l,hn=>by
  obtain⟨b,h⟩:=ss.1 hn
  simp only[BY]
  by_cases e:a=x
  .subst e
   rw[pN rfl]
   cases hm:Cw a l with
   |none=>rfl
   |some z=>exact absurd (qj.2 ⟨_,MN hm,rfl⟩) b
  .rw[pQ e]; simp only[Cw,pQ e]; exact Fs h
def KT {y:β}:∀{l:List<|Int×β},Cw a l=some y->∃j,l[j]?=some (a,y)/\BY a l=l.eraseIdx j/\∀z,C4 a z l=l.set j (a,z)
 |[],h=>wU
 |(x,z)::l,h=>by
  simp only[Cw] at h
  split at h
  .rename_i e; cases h; subst e; exact⟨0,rfl,by simp[BY],λz=>by simp[C4]⟩
  .rename_i e
   obtain⟨j,c,d,b⟩:=KT h
   exact⟨j+1,dP,by simp[BY,e,d],λz=>by simp[C4,e,b]⟩
def P2:∀{l:List<|Int×β},Cw a l=none->BY a l=l/\∀z,C4 a z l=l++[(a,z)]
 |[],_=>⟨rfl,λ_=>rfl⟩
 |(x,y)::l,h=>by
  simp only[Cw] at h
  split at h
  .cases h
  .rename_i e
   obtain⟨b,c⟩:=P2 h
   exact⟨by simp[BY,e,b],λz=>by simp[C4,e,c]⟩
abbrev TR (q:Int×(Sv×bf)):Nr:=AG q.2.1.v 3 ds q.2.2
def Rel.fill {S:CS} (h:Rel S M) {i:Nat} {f f':FC} {y':Vw} (b:Int) (z:S.fl[i]?=some f) (y:vw f'=y') (a:f'.blk=f.blk) (d:(f'.st=1\/f'.st=2)↔(f.st=1\/f.st=2)):Rel {S with fl:=S.fl.set i f',ld:=BY b S.ld} {M.put i y' with loads:=M.loads.filter<|λq=>!decide (q.2=b)}:=by
 have x:=h.fP z y a d;refine⟨x.fr,x.ln,x.hd,x.at',λc=>?_,h.nd.sublist<|KS b S.ld,h.na⟩;show ((M.loads.filter<|λq=>!decide (q.2=b)).filter<|λq=>decide (q.2=c)).map Prod.fst=_
 rw[XeU];by_cases e:c=b
 .subst e; rw[pN rfl]; show []=match Cw c (BY c S.ld) with|some q=>q.2|none=>[]
  rw[Fs h.nd]
 rw[pQ e]; show _=match Cw c (BY b S.ld) with|some q=>q.2|none=>[]
 rw[IT Zh]; exact h.ld c
def XbW {S:CS} {q:Int×(Sv×bf)} (h:S.ld[j]?=some q):S.rows[j]?=some (TR q):=by unfold CS.rows; rw[qq,h]; rfl
def Xfe (S:CS) (j:Nat):S.rows.eraseIdx j=(S.ld.eraseIdx j).map TR:=(Es _ _ _).symm
def XhO (S:CS) (j:Nat) (q:Int×(Sv×bf)):S.rows.set j (TR q)=(S.ld.set j q).map TR:=rH.symm
def XhP (S:CS):S.rows.length=S.ld.length:=qY ..
def XfJ (h:f.st=1) {nv:NV}:vw {f with st:=2,nv:=nv}={vw f with st:=2,nd:=nv.d}:=by unfold vw; simp[h]